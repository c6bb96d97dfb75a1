import PyProof.Rows.All
import Wide.All
import OpenK.AllK
import Wide.FinOn
import HandS.ForMost
import HandS.ForExc
import HandS.IsInst
import HandS.Deep
import HandS.Conv
import HandS.Zip
import HandS.Evl
import HandS.Walk
import HandS.Flow
import HandS.SetBool
import HandS.ExcInit
import PyProof.DictIter
import HandS.TupAny
import HandS.TupMul
import HandS.TupLe
import HandS.Text
import KE.GoesEnum
import HandS.Iter
import HandS.More
import HandS.NoneIn
import HandS.Dict
import PyProof.SumWalkG
import PyProof.WalksMore
import HandS.Defaults
import HandS.Style
import KE.KDictZip
import KE.GoesZip
import KE.GoesMore
import HandS.SetFor
import PyProof.EqKinds
import HandS.Strs
import HandS.ListItems
import HandS.OwnEq
import HandS.Property
import KE.KCallOwn
import HandS.MakeKwOnly
import HandS.FStr
import HandS.RaiseMore
import KE.SortData
import HandS.SortInts
import HandS.DictComp
import HandS.Star
import HandS.ExcField
import HandS.ExcIs
import KE.KExcInit
import KE.KExcIs
import KE.KExcMake
import PyProof.ExcBaseAll.ArithmeticError
import PySem.Challenge.RW_basetrees_k01_constants_and_errors
set_option Elab.async false
set_option linter.all false
set_option maxRecDepth 100000
set_option maxHeartbeats 2000000
namespace Dn
open PySem L2
/-- where the classes stand -/
class CTab where
  ct : Nat → Addr
  /-- the empty tuple that a def has as its default -/
  et : Addr
variable [CTab]

/-! ### heaps: a step from (B, H) to (B2, H2). B is the part of the heap that stands for good -/
structure Go (B H B2 H2 : Hp) : Prop where
  h : Same H H2
  b : Same B B2
  bh : Same B2 H2
  fr : ∀ a o, B2 a = some o → B a = some o ∨ H a = none
theorem Go.refl {B H : Hp} (s : Same B H) : Go B H B H := ⟨Same.refl H, Same.refl B, s, fun _ _ e => .inl e⟩
theorem Go.trans {B H B1 H1 B2 H2 : Hp} (x : Go B H B1 H1) (y : Go B1 H1 B2 H2) : Go B H B2 H2 :=
  ⟨x.h.trans y.h, x.b.trans y.b, y.bh, fun a o e => by
    rcases y.fr a o e with z | z
    · exact x.fr a o z
    · exact .inr (x.h.free z)⟩
/-- a new object, kept for good -/
theorem Go.new {B H : Hp} (s : Same B H) {p : Addr} {o : HO} (hp : H p = none) : Go B H (upd B p o) (upd H p o) := by
  refine ⟨fun b u e => ?_, fun b u e => ?_, fun b u e => ?_, fun b u e => ?_⟩
  · rw [upd_ne (ne_of_none e hp)]; exact e
  · rw [upd_ne (ne_of_none (s b u e) hp)]; exact e
  · by_cases hb : b = p
    · subst hb; rw [upd_same] at e ⊢; exact e
    · rw [upd_ne hb] at e ⊢; exact s b u e
  · by_cases hb : b = p
    · subst hb; exact .inr hp
    · rw [upd_ne hb] at e; exact .inl e
/-- a new object, one's own (it may change) -/
theorem Go.own {B H : Hp} (s : Same B H) {p : Addr} {o : HO} (hp : H p = none) : Go B H B (upd H p o) := by
  refine ⟨fun b u e => ?_, Same.refl B, fun b u e => ?_, fun b u e => .inl e⟩
  · rw [upd_ne (ne_of_none e hp)]; exact e
  · rw [upd_ne (ne_of_none (s b u e) hp)]; exact s b u e
/-- one's own object changes -/
theorem Go.mut {B0 H0 B H : Hp} (g : Go B0 H0 B H) {p : Addr} {o : HO} (h0 : H0 p = none) (hb : B p = none) : Go B0 H0 B (upd H p o) := by
  refine ⟨fun b u e => ?_, g.b, fun b u e => ?_, g.fr⟩
  · rw [upd_ne (ne_of_none e h0)]; exact g.h b u e
  · rw [upd_ne (ne_of_none e hb)]; exact g.bh b u e
/-- one's own object is kept for good from here on -/
theorem Go.keep {B0 H0 B H : Hp} (g : Go B0 H0 B H) {p : Addr} {o : HO} (h0 : H0 p = none) (hb : B p = none) (hp : H p = some o) : Go B0 H0 (upd B p o) H := by
  refine ⟨g.h, fun b u e => ?_, fun b u e => ?_, fun b u e => ?_⟩
  · rw [upd_ne (ne_of_none (g.b b u e) hb)]; exact g.b b u e
  · by_cases q : b = p
    · subst q; rw [upd_same] at e; rw [hp]; exact e
    · rw [upd_ne q] at e; exact g.bh b u e
  · by_cases q : b = p
    · subst q; exact .inr h0
    · rw [upd_ne q] at e; exact g.fr b u e
theorem Go.noB {B H B2 H2 : Hp} (g : Go B H B2 H2) {p : Addr} {o : HO} (hb : B p = none) (hp : H p = some o) : B2 p = none := by
  cases q : B2 p with
  | none => rfl
  | some u =>
    rcases g.fr p u q with z | z
    · rw [hb] at z; cases z
    · rw [hp] at z; cases z
theorem same_upd {B H : Hp} (s : Same B H) {p : Addr} {o : HO} (hb : B p = none) : Same B (upd H p o) := fun b u e => by
  rw [upd_ne (ne_of_none e hb)]; exact s b u e

/-- where one stands, seen from B -/
structure At (B B1 H1 : Hp) : Prop where
  b : Same B B1
  bh : Same B1 H1
theorem At.refl {B H : Hp} (s : Same B H) : At B B H := ⟨Same.refl B, s⟩
theorem At.trans {B B1 H1 B2 H2 : Hp} (x : At B B1 H1) (y : Go B1 H1 B2 H2) : At B B2 H2 := ⟨x.b.trans y.b, y.bh⟩
theorem Go.at {B H B1 H1 : Hp} (g : Go B H B1 H1) : At B B1 H1 := ⟨g.b, g.bh⟩
instance {B H B1 H1 : Hp} : CoeOut (Go B H B1 H1) (At B B1 H1) := ⟨Go.at⟩
theorem At.tr {B B1 H1 B2 H2 : Hp} (x : At B B1 H1) (y : At B1 B2 H2) : At B B2 H2 := ⟨x.b.trans y.b, y.bh⟩

/-! ### dicts whose keys are truths -/
inductive BPs : List DictEntry → List (Bool × Value) → Prop
  | nil : BPs [] []
  | cons {e : DictEntry} {k : Bool} {v : Value} {es : List DictEntry} {kvs : List (Bool × Value)} : e.key = .bool k → e.hash = PpSet.hB k → e.val = v → BPs es kvs → BPs (e :: es) ((k, v) :: kvs)
def DictB (o : Obj) (es : List (Bool × V)) : Prop := o.ExactDict ∧ ∃ (ents : Array DictEntry) (ep : Nat) (vs : List (Bool × Value)), o.data = .dict ents ep ∧ KV es vs ∧ BPs ents.toList vs ∧ (vs.map (·.1)).Nodup
def dB (a : Addr) (es : List (Bool × V)) : HO := .ext fun h => es.length ≤ sizeLine ∧ (a == sysModules) = false ∧ ∃ o, h.get? a = some o ∧ DictB o es
def vOf : Value → Option V
  | .none => some .non
  | .bool b => some (.bl b)
  | .int i _ => some (.int i)
  | .str x _ => some (.str x)
  | .bytes b _ => some (.byt b)
  | .float b _ => some (.flt b)
  | .ref a => some (.ref a)
  | .type n => some (.ty n)
  | _ => none
theorem vOf_rel : ∀ {x : V} {u : Value}, RelV x u → vOf u = some x
  | .non, u, h => by cases (show u = _ from h); rfl
  | .bl b, u, h => by cases (show u = _ from h); rfl
  | .ref b, u, h => by cases (show u = _ from h); rfl
  | .ty b, u, h => by cases (show u = _ from h); rfl
  | .int b, u, h => by obtain ⟨_, rfl⟩ := h; rfl
  | .str b, u, h => by obtain ⟨_, rfl⟩ := h; rfl
  | .byt b, u, h => by obtain ⟨_, rfl⟩ := h; rfl
  | .flt b, u, h => by obtain ⟨_, rfl⟩ := h; rfl
theorem relV_inj {x y : V} {u : Value} (h1 : RelV x u) (h2 : RelV y u) : x = y := by
  have e1 := vOf_rel h1
  rw [vOf_rel h2] at e1
  exact (Option.some.inj e1).symm
theorem BPs.inj : ∀ {l : List DictEntry} {vs ws : List (Bool × Value)}, BPs l vs → BPs l ws → vs = ws
  | _, _, _, .nil, .nil => rfl
  | _, _, _, .cons h1 _ h2 t, .cons g1 _ g2 t' => by
    rw [BPs.inj t t', ← h2, ← g2]
    rw [h1] at g1
    cases g1
    rfl
theorem BPs.pairs {P : Program} {w : World} : ∀ {l : List DictEntry} {vs : List (Bool × Value)}, BPs l vs → Pairs (PpSet.boolK P w) l vs
  | _, _, .nil => .nil
  | _, _, .cons h1 _ h2 t => .cons (by rw [h1]; exact PpSet.boolK_is P w _) h2 t.pairs
theorem BPs.keys {P : Program} {w : World} : ∀ {l : List DictEntry} {vs : List (Bool × Value)}, BPs l vs → ∀ e ∈ l, ∃ k, (PpSet.boolK P w).is k e.key = true ∧ e.hash = (PpSet.boolK P w).hash k
  | _, _, .nil, e, h => nomatch h
  | _, _, .cons (k := k) h1 h3 h2 t, e, h => by
    rcases List.mem_cons.mp h with rfl | h
    · exact ⟨k, by rw [h1]; exact PpSet.boolK_is P w _, h3⟩
    · exact t.keys e h
theorem BPs.of {P : Program} {w : World} : ∀ {l : List DictEntry} {vs : List (Bool × Value)}, Pairs (PpSet.boolK P w) l vs → (∀ e ∈ l, ∃ k, (PpSet.boolK P w).is k e.key = true ∧ e.hash = (PpSet.boolK P w).hash k) → BPs l vs
  | _, _, .nil, _ => .nil
  | _, _, .cons (kv := kv) h1 h2 t, h => by
    obtain ⟨k, v⟩ := kv
    obtain ⟨k', h3, h4⟩ := h _ (List.mem_cons_self ..)
    have e := (PpSet.boolK P w).inj _ _ _ h1 h3
    subst e
    exact .cons (PpSet.isB_shape h1) h4 h2 (BPs.of t fun e he => h e (List.mem_cons_of_mem _ he))
theorem kvB_inj : ∀ {es fs : List (Bool × V)} {vs : List (Bool × Value)}, KV es vs → KV fs vs → es = fs
  | _, _, _, .nil, .nil => rfl
  | _, _, _, .cons (a := p) h t, .cons (a := q) h' t' => by
    rw [kvB_inj t t']
    congr 1
    exact Prod.ext (h.1.trans h'.1.symm) (relV_inj h.2 h'.2)
theorem DictB.inj {o : Obj} {es fs : List (Bool × V)} (x : DictB o es) (y : DictB o fs) : es = fs := by
  obtain ⟨_, ents, ep, vs, e1, k1, h1, _⟩ := x
  obtain ⟨_, ents', ep', vs', e2, k2, h2, _⟩ := y
  rw [e1] at e2
  cases e2
  have := h1.inj h2
  subst this
  exact kvB_inj k1 k2
/-! ### data -/
inductive U where
  | non | bl (b : Bool) | int (i : Int) | str (s : Str)
  | tup (xs : List U) | lst (xs : List U)
  /-- a tuple whose object is known to have no dict of its own -/
  | tpd (xs : List U)
  /-- a locked list: the script, or one's own list while it is looked at -/
  | frl (xs : List U)
  | dic (kvs : List (Key × U))
  | dit (kvs : List (List Key × U))
  /-- a dict whose keys are truths -/
  | dib (kvs : List (Bool × U))
  /-- the empty tuple of a default -/
  | mt
  /-- an exception that the program has made: the class's tag, its fields -/
  | exc (C : Nat) (fs : List (Str × U))
  /-- an instance -/
  | obj (C : Nat) (fs : List (Str × U))
/-! ### what a value stands for, in the part that stands for good -/
mutual
inductive Rp (B : Hp) : U → V → Prop
  | non : Rp B .non .non
  | bl (b : Bool) : Rp B (.bl b) (.bl b)
  | int (i : Int) : Rp B (.int i) (.int i)
  | str (s : Str) : Rp B (.str s) (.str s)
  | tup {a : Addr} {xs : List U} {vs : List V} : B a = some (.tup vs) → Rps B xs vs → Rp B (.tup xs) (.ref a)
  | tpd {a : Addr} {xs : List U} {vs : List V} {o : Obj} : B a = some (.frz o (.tup vs)) → o.dict = none → Rps B xs vs → Rp B (.tpd xs) (.ref a)
  | lst {a : Addr} {xs : List U} {vs : List V} : B a = some (.lst vs) → Rps B xs vs → Rp B (.lst xs) (.ref a)
  | frl {a : Addr} {xs : List U} {vs : List V} {o : Obj} : B a = some (.frz o (.lst vs)) → Rps B xs vs → Rp B (.frl xs) (.ref a)
  | dic {a : Addr} {kvs : List (Key × U)} {es : List (Key × V)} {o : Obj} : B a = some (.frz o (.dK es)) → Rpk B kvs es → Rp B (.dic kvs) (.ref a)
  | dit {a : Addr} {kvs : List (List Key × U)} {es : List (List Key × V)} {o : Obj} : B a = some (.frz o (.dT es)) → Rpt B kvs es → Rp B (.dit kvs) (.ref a)
  | dib {a : Addr} {kvs : List (Bool × U)} {es : List (Bool × V)} {o : Obj} : B a = some (.frz o (dB a es)) → DictB o es → Rpb B kvs es → Rp B (.dib kvs) (.ref a)
  | mt : Rp B .mt (.ref CTab.et)
  | exc0 {a : Addr} {C : Nat} : B a = some (exo a (CTab.ct C) none) → Rp B (.exc C []) (.ref a)
  | exc {a dx : Addr} {C : Nat} {fs : List (Str × U)} {es : List (Str × V)} : B a = some (exo a (CTab.ct C) (some dx)) → B dx = some (exd dx es) → Rpf B fs es → Rp B (.exc C fs) (.ref a)
  | obj {a dx : Addr} {C : Nat} {fs : List (Str × U)} {es : List (Str × V)} : B a = some (.ins (CTab.ct C) dx es) → B dx = some (.own a) → Rpf B fs es → Rp B (.obj C fs) (.ref a)
inductive Rps (B : Hp) : List U → List V → Prop
  | nil : Rps B [] []
  | cons {x : U} {v : V} {xs : List U} {vs : List V} : Rp B x v → Rps B xs vs → Rps B (x :: xs) (v :: vs)
inductive Rpk (B : Hp) : List (Key × U) → List (Key × V) → Prop
  | nil : Rpk B [] []
  | cons {k : Key} {x : U} {v : V} {xs : List (Key × U)} {vs : List (Key × V)} : Rp B x v → Rpk B xs vs → Rpk B ((k, x) :: xs) ((k, v) :: vs)
inductive Rpt (B : Hp) : List (List Key × U) → List (List Key × V) → Prop
  | nil : Rpt B [] []
  | cons {k : List Key} {x : U} {v : V} {xs : List (List Key × U)} {vs : List (List Key × V)} : Rp B x v → Rpt B xs vs → Rpt B ((k, x) :: xs) ((k, v) :: vs)
inductive Rpb (B : Hp) : List (Bool × U) → List (Bool × V) → Prop
  | nil : Rpb B [] []
  | cons {k : Bool} {x : U} {v : V} {xs : List (Bool × U)} {vs : List (Bool × V)} : Rp B x v → Rpb B xs vs → Rpb B ((k, x) :: xs) ((k, v) :: vs)
inductive Rpf (B : Hp) : List (Str × U) → List (Str × V) → Prop
  | nil : Rpf B [] []
  | cons {k : Str} {x : U} {v : V} {xs : List (Str × U)} {vs : List (Str × V)} : Rp B x v → Rpf B xs vs → Rpf B ((k, x) :: xs) ((k, v) :: vs)
end
/-- what keeps the readings -/
structure Kp (B B' : Hp) : Prop where
  tup : ∀ a xs, B a = some (.tup xs) → B' a = some (.tup xs)
  lst : ∀ a xs, B a = some (.lst xs) → B' a = some (.lst xs)
  frz : ∀ a o u, B a = some (.frz o u) → B' a = some (.frz o u)
  ins : ∀ a C dx xs, B a = some (.ins C dx xs) → B' a = some (.ins C dx xs)
  own : ∀ a x, B a = some (.own x) → B' a = some (.own x)
  ext : ∀ a φ, B a = some (.ext φ) → B' a = some (.ext φ)
theorem rd_same {B B' : Hp} {a : Addr} {u : HO} (s : Same B B') (h : Rd B a u) : Rd B' a u := by
  rcases h with h | ⟨o, h⟩
  · exact .inl (s _ _ h)
  · exact .inr ⟨o, s _ _ h⟩
theorem Kp.of {B B' : Hp} (s : Same B B') : Kp B B' := ⟨fun _ _ => s _ _, fun _ _ => s _ _, fun _ _ _ => s _ _, fun _ _ _ _ => s _ _, fun _ _ => s _ _, fun _ _ => s _ _⟩
section
variable {B B' : Hp}
mutual
theorem Rp.kp (s : Kp B B') : ∀ {u : U} {v : V}, Rp B u v → Rp B' u v
  | _, _, .non => .non
  | _, _, .bl b => .bl b
  | _, _, .int i => .int i
  | _, _, .str x => .str x
  | _, _, .tup h r => .tup (s.tup _ _ h) (Rps.kp s r)
  | _, _, .tpd h d r => .tpd (s.frz _ _ _ h) d (Rps.kp s r)
  | _, _, .lst h r => .lst (s.lst _ _ h) (Rps.kp s r)
  | _, _, .frl h r => .frl (s.frz _ _ _ h) (Rps.kp s r)
  | _, _, .dic h r => .dic (s.frz _ _ _ h) (Rpk.kp s r)
  | _, _, .dit h r => .dit (s.frz _ _ _ h) (Rpt.kp s r)
  | _, _, .dib h d r => .dib (s.frz _ _ _ h) d (Rpb.kp s r)
  | _, _, .mt => .mt
  | _, _, .exc0 h => .exc0 (s.ext _ _ h)
  | _, _, .exc h k r => .exc (s.ext _ _ h) (s.ext _ _ k) (Rpf.kp s r)
  | _, _, .obj h k r => .obj (s.ins _ _ _ _ h) (s.own _ _ k) (Rpf.kp s r)
theorem Rps.kp (s : Kp B B') : ∀ {u : List U} {v : List V}, Rps B u v → Rps B' u v
  | _, _, .nil => .nil
  | _, _, .cons h r => .cons (Rp.kp s h) (Rps.kp s r)
theorem Rpk.kp (s : Kp B B') : ∀ {u : List (Key × U)} {v : List (Key × V)}, Rpk B u v → Rpk B' u v
  | _, _, .nil => .nil
  | _, _, .cons h r => .cons (Rp.kp s h) (Rpk.kp s r)
theorem Rpt.kp (s : Kp B B') : ∀ {u : List (List Key × U)} {v : List (List Key × V)}, Rpt B u v → Rpt B' u v
  | _, _, .nil => .nil
  | _, _, .cons h r => .cons (Rp.kp s h) (Rpt.kp s r)
theorem Rpb.kp (s : Kp B B') : ∀ {u : List (Bool × U)} {v : List (Bool × V)}, Rpb B u v → Rpb B' u v
  | _, _, .nil => .nil
  | _, _, .cons h r => .cons (Rp.kp s h) (Rpb.kp s r)
theorem Rpf.kp (s : Kp B B') : ∀ {u : List (Str × U)} {v : List (Str × V)}, Rpf B u v → Rpf B' u v
  | _, _, .nil => .nil
  | _, _, .cons h r => .cons (Rp.kp s h) (Rpf.kp s r)
end
end
theorem Rp.upA {B B2 H2 : Hp} {u : U} {v : V} (r : Rp B u v) (g : At B B2 H2) : Rp B2 u v := r.kp (Kp.of g.b)
theorem Rp.up {B H B2 H2 : Hp} {u : U} {v : V} (r : Rp B u v) (g : Go B H B2 H2) : Rp B2 u v := r.kp (Kp.of g.b)
theorem Rps.up {B H B2 H2 : Hp} {u : List U} {v : List V} (r : Rps B u v) (g : Go B H B2 H2) : Rps B2 u v := r.kp (Kp.of g.b)
theorem Rp.in {B H : Hp} {u : U} {v : V} (r : Rp B u v) (s : Same B H) : Rp H u v := r.kp (Kp.of s)
theorem Rps.in {B H : Hp} {u : List U} {v : List V} (r : Rps B u v) (s : Same B H) : Rps H u v := r.kp (Kp.of s)
section
variable {B : Hp}
theorem Rps.length : ∀ {xs : List U} {vs : List V}, Rps B xs vs → vs.length = xs.length
  | _, _, .nil => rfl
  | _, _, .cons _ t => by rw [List.length_cons, List.length_cons, Rps.length t]
theorem Rps.get : ∀ {xs : List U} {vs : List V} {i : Nat} {x : U}, Rps B xs vs → xs[i]? = some x → ∃ v, vs[i]? = some v ∧ Rp B x v
  | _, _, _, _, .nil, e => by simp at e
  | _, _, 0, _, .cons h _, e => by simp at e; subst e; exact ⟨_, rfl, h⟩
  | _, _, i + 1, x, .cons _ t, e => by
    obtain ⟨v, h1, h2⟩ := Rps.get (i := i) (x := x) t (by simpa using e)
    exact ⟨v, by simpa using h1, h2⟩
theorem Rps.back : ∀ {xs : List U} {vs : List V} {i : Nat} {v : V}, Rps B xs vs → vs[i]? = some v → ∃ x, xs[i]? = some x ∧ Rp B x v
  | _, _, _, _, .nil, e => by simp at e
  | _, _, 0, _, .cons h _, e => by simp at e; subst e; exact ⟨_, rfl, h⟩
  | _, _, i + 1, v, .cons _ t, e => by
    obtain ⟨x, h1, h2⟩ := Rps.back (i := i) (v := v) t (by simpa using e)
    exact ⟨x, by simpa using h1, h2⟩
theorem Rps.append : ∀ {xs ys : List U} {vs ws : List V}, Rps B xs vs → Rps B ys ws → Rps B (xs ++ ys) (vs ++ ws)
  | _, _, _, _, .nil, s => s
  | _, _, _, _, .cons h t, s => .cons h (Rps.append t s)
theorem Rps.one {x : U} {v : V} (h : Rp B x v) : Rps B [x] [v] := .cons h .nil
theorem Rps.take : ∀ {xs : List U} {vs : List V} (n : Nat), Rps B xs vs → Rps B (xs.take n) (vs.take n)
  | _, _, 0, _ => by simp; exact .nil
  | _, _, _ + 1, .nil => .nil
  | _, _, n + 1, .cons h t => .cons h (Rps.take n t)
theorem Rps.drop : ∀ {xs : List U} {vs : List V} (n : Nat), Rps B xs vs → Rps B (xs.drop n) (vs.drop n)
  | _, _, 0, h => h
  | _, _, _ + 1, .nil => .nil
  | _, _, n + 1, .cons _ t => Rps.drop n t
theorem Rps.ints : ∀ (ns : List Int), Rps B (ns.map U.int) (ns.map V.int)
  | [] => .nil
  | n :: ns => .cons (.int n) (Rps.ints ns)
end

/-! ### what an expression comes to: none where nothing is said -/
def EvO (te : TE) (σ : St) (B H : Hp) (o : Option U) : Prop :=
  ∀ z, o = some z → ∀ B1 H1, At B B1 H1 → ∀ Q : VK, (∀ v B2 H2, Go B1 H1 B2 H2 → Rp B2 z v → Q v H2) → te σ H1 Q
def EvT (tt : TT) (σ : St) (B H : Hp) (o : Option Bool) : Prop :=
  ∀ z, o = some z → ∀ B1 H1, At B B1 H1 → ∀ Q : Bool → Hp → Prop, (∀ B2 H2, Go B1 H1 B2 H2 → Q z H2) → tt σ H1 Q
def EvA (ta : TA) (σ : St) (B H : Hp) (o : Option (List U)) : Prop :=
  ∀ z, o = some z → ∀ B1 H1, At B B1 H1 → ∀ Q : List V → Hp → Prop, (∀ v B2 H2, Go B1 H1 B2 H2 → Rps B2 z v → Q v H2) → ta σ H1 Q
def U.asB : U → Option Bool
  | .bl b => some b
  | _ => none
def andO (a b : Option Bool) : Option Bool := a.bind fun x => if x = true then b else some false
def orO (a b : Option Bool) : Option Bool := a.bind fun x => if x = true then some true else b
def notO (a : Option Bool) : Option Bool := a.map fun x => !x
def andV (a b : Option U) : Option U := (a.bind U.asB).bind fun x => if x = true then b else some (.bl false)
def orV (a b : Option U) : Option U := (a.bind U.asB).bind fun x => if x = true then some (.bl true) else b
def notV (a : Option U) : Option U := (a.bind U.asB).map fun x => .bl (!x)
def ifO {α : Type} (c : Option Bool) (a b : Option α) : Option α := c.bind fun x => if x = true then a else b
def consO (a : Option U) (b : Option (List U)) : Option (List U) := a.bind fun x => b.map fun r => x :: r
section
variable {α β : Type}
theorem bind_some {o : Option α} {f : α → Option β} {z : β} (h : o.bind f = some z) : ∃ x, o = some x ∧ f x = some z := by
  cases o with
  | none => cases h
  | some x => exact ⟨x, rfl, h⟩
theorem map_some {o : Option α} {f : α → β} {z : β} (h : o.map f = some z) : ∃ x, o = some x ∧ f x = z := by
  cases o with
  | none => cases h
  | some x => exact ⟨x, rfl, Option.some.inj h⟩
end
section
variable {σ : St} {B H B1 H1 : Hp} {ta tb te tc : TE} {t u : TT} {oa ob oc : Option U}
theorem EvO.go {o : Option U} (h : EvO te σ B H o) (g : At B B1 H1) : EvO te σ B1 H1 o := fun z e B2 H2 g2 => h z e B2 H2 (g.tr g2)
theorem EvT.go {o : Option Bool} (h : EvT t σ B H o) (g : At B B1 H1) : EvT t σ B1 H1 o := fun z e B2 H2 g2 => h z e B2 H2 (g.tr g2)
theorem eo_var {x : U} {v : V} {i : Nat} (h : σ[i]? = some (some v)) (r : Rp B x v) : EvO (tVar i) σ B H (some x) := fun z e B1 H1 g Q q => ⟨v, h, by cases e; exact q v B1 H1 (Go.refl g.bh) (r.upA g)⟩
theorem eo_c {x : U} {v : V} (r : Rp B x v) : EvO (tC v) σ B H (some x) := fun z e B1 H1 g Q q => by cases e; exact q v B1 H1 (Go.refl g.bh) (r.upA g)
theorem eo_int {i : Int} : EvO (tC (.int i)) σ B H (some (.int i)) := eo_c (.int i)
theorem eo_bl {i : Bool} : EvO (tC (.bl i)) σ B H (some (.bl i)) := eo_c (.bl i)
theorem eo_str {i : Str} : EvO (tC (.str i)) σ B H (some (.str i)) := eo_c (.str i)
theorem eo_non : EvO (tC .non) σ B H (some .non) := eo_c .non
/-- an operation on two values -/
def RV (r : R2) (f : U → U → Option U) : Prop := ∀ x y z, f x y = some z → ∀ v w B H, Same B H → Rp B x v → Rp B y w → ∀ Q : VK, (∀ v2 B2 H2, Go B H B2 H2 → Rp B2 z v2 → Q v2 H2) → r v w H Q
theorem eo_op {r : R2} {f : U → U → Option U} (ha : EvO ta σ B H oa) (hb : EvO tb σ B H ob) (hr : RV r f) : EvO (tOp r ta tb) σ B H (oa.bind fun x => ob.bind fun y => f x y) := fun z e B1 H1 g Q q => by
  obtain ⟨x, ex, e⟩ := bind_some e
  obtain ⟨y, ey, e⟩ := bind_some e
  exact ha x ex B1 H1 g _ fun v B2 H2 g2 r2 => hb y ey B2 H2 (g.trans g2) _ fun w B3 H3 g3 r3 => hr x y z e v w B3 H3 g3.bh (r2.up g3) r3 Q fun v2 B4 H4 g4 r4 => q v2 B4 H4 ((g2.trans g3).trans g4) r4
def RU (r : V → Hp → VK → Prop) (f : U → Option U) : Prop := ∀ x z, f x = some z → ∀ v B H, Same B H → Rp B x v → ∀ Q : VK, (∀ v2 B2 H2, Go B H B2 H2 → Rp B2 z v2 → Q v2 H2) → r v H Q
theorem eo_un {r : V → Hp → VK → Prop} {f : U → Option U} (ha : EvO ta σ B H oa) (hr : RU r f) : EvO (tUn r ta) σ B H (oa.bind f) := fun z e B1 H1 g Q q => by
  obtain ⟨x, ex, e⟩ := bind_some e
  exact ha x ex B1 H1 g _ fun v B2 H2 g2 r2 => hr x z e v B2 H2 g2.bh r2 Q fun v2 B4 H4 g4 r4 => q v2 B4 H4 (g2.trans g4) r4
/-- a call by values -/
def RC (r : List V → Hp → VK → Prop) (f : List U → Option U) : Prop := ∀ xs z, f xs = some z → ∀ vs B H, Same B H → Rps B xs vs → ∀ Q : VK, (∀ v2 B2 H2, Go B H B2 H2 → Rp B2 z v2 → Q v2 H2) → r vs H Q
theorem eo_cb {r : List V → Hp → VK → Prop} {f : List U → Option U} {tl : TA} {ol : Option (List U)} (ha : EvA tl σ B H ol) (hr : RC r f) : EvO (tCB r tl) σ B H (ol.bind f) := fun z e B1 H1 g Q q => by
  obtain ⟨x, ex, e⟩ := bind_some e
  exact ha x ex B1 H1 g _ fun v B2 H2 g2 r2 => hr x z e v B2 H2 g2.bh r2 Q fun v2 B4 H4 g4 r4 => q v2 B4 H4 (g2.trans g4) r4
/-! ### tests -/
theorem et_test (h : EvO te σ B H oa) : EvT (tTest te) σ B H (oa.bind U.asB) := fun z e B1 H1 g _ q => by
  obtain ⟨x, ex, e⟩ := bind_some e
  cases x <;> cases e
  exact h _ ex B1 H1 g _ fun v B2 H2 g2 r => by cases r; exact ⟨_, rfl, q B2 H2 g2⟩
theorem et_B (h : EvO te σ B H oa) : EvT (tB te) σ B H (oa.bind U.asB) := fun z e B1 H1 g _ q => by
  obtain ⟨x, ex, e⟩ := bind_some e
  cases x <;> cases e
  exact h _ ex B1 H1 g _ fun v B2 H2 g2 r => by cases r; exact ⟨_, rfl, q B2 H2 g2⟩
theorem et_and {a b : Option Bool} (h1 : EvT t σ B H a) (h2 : EvT u σ B H b) : EvT (tAnd t u) σ B H (andO a b) := fun z e B1 H1 g Q q => by
  obtain ⟨x, ex, e⟩ := bind_some e
  refine h1 x ex B1 H1 g _ fun B2 H2 g2 => ?_
  cases x with
  | true => exact h2 z e B2 H2 (g.trans g2) Q fun B3 H3 g3 => q B3 H3 (g2.trans g3)
  | false => cases e; exact q B2 H2 g2
theorem et_or {a b : Option Bool} (h1 : EvT t σ B H a) (h2 : EvT u σ B H b) : EvT (tOr t u) σ B H (orO a b) := fun z e B1 H1 g Q q => by
  obtain ⟨x, ex, e⟩ := bind_some e
  refine h1 x ex B1 H1 g _ fun B2 H2 g2 => ?_
  cases x with
  | false => exact h2 z e B2 H2 (g.trans g2) Q fun B3 H3 g3 => q B3 H3 (g2.trans g3)
  | true => cases e; exact q B2 H2 g2
theorem et_not {a : Option Bool} (h1 : EvT t σ B H a) : EvT (tNot t) σ B H (notO a) := fun z e B1 H1 g _ q => by
  obtain ⟨x, ex, e⟩ := map_some e
  subst e
  exact h1 x ex B1 H1 g _ fun B2 H2 g2 => q B2 H2 g2
theorem eo_and (h1 : EvO ta σ B H oa) (h2 : EvO tb σ B H ob) : EvO (tAndV ta tb) σ B H (andV oa ob) := fun z e B1 H1 g Q q => by
  obtain ⟨x, ex, e⟩ := bind_some e
  obtain ⟨y, ey, ex⟩ := bind_some ex
  cases y <;> cases ex
  refine h1 _ ey B1 H1 g _ fun v B2 H2 g2 r => ?_
  cases r
  refine ⟨x, rfl, ?_⟩
  cases x with
  | true => exact h2 z e B2 H2 (g.trans g2) Q fun w B3 H3 g3 r3 => q w B3 H3 (g2.trans g3) r3
  | false => cases e; exact q _ B2 H2 g2 (.bl false)
theorem eo_or (h1 : EvO ta σ B H oa) (h2 : EvO tb σ B H ob) : EvO (tOrV ta tb) σ B H (orV oa ob) := fun z e B1 H1 g Q q => by
  obtain ⟨x, ex, e⟩ := bind_some e
  obtain ⟨y, ey, ex⟩ := bind_some ex
  cases y <;> cases ex
  refine h1 _ ey B1 H1 g _ fun v B2 H2 g2 r => ?_
  cases r
  refine ⟨x, rfl, ?_⟩
  cases x with
  | false => exact h2 z e B2 H2 (g.trans g2) Q fun w B3 H3 g3 r3 => q w B3 H3 (g2.trans g3) r3
  | true => cases e; exact q _ B2 H2 g2 (.bl true)
theorem eo_not (h1 : EvO ta σ B H oa) : EvO (tNotV ta) σ B H (notV oa) := fun z e B1 H1 g Q q => by
  obtain ⟨x, ex, e⟩ := map_some e
  obtain ⟨y, ey, ex⟩ := bind_some ex
  cases y <;> cases ex
  subst e
  refine h1 _ ey B1 H1 g _ fun v B2 H2 g2 r => ?_
  cases r
  exact ⟨x, rfl, q _ B2 H2 g2 (.bl _)⟩
theorem eo_if {c : Option Bool} (h : EvT t σ B H c) (h1 : EvO ta σ B H oa) (h2 : EvO tb σ B H ob) : EvO (tIf t ta tb) σ B H (ifO c oa ob) := fun z e B1 H1 g Q q => by
  obtain ⟨x, ex, e⟩ := bind_some e
  refine h x ex B1 H1 g _ fun B2 H2 g2 => ?_
  cases x with
  | true => exact h1 z e B2 H2 (g.trans g2) Q fun w B3 H3 g3 r3 => q w B3 H3 (g2.trans g3) r3
  | false => exact h2 z e B2 H2 (g.trans g2) Q fun w B3 H3 g3 r3 => q w B3 H3 (g2.trans g3) r3
/-! ### arguments, displays -/
theorem ea_nil : EvA tNil σ B H (some []) := fun z e B1 H1 g _ q => by cases e; exact q _ B1 H1 (Go.refl g.bh) .nil
theorem ea_cons {tr : TA} {ol : Option (List U)} (h : EvO ta σ B H oa) (hr : EvA tr σ B H ol) : EvA (tCons ta tr) σ B H (consO oa ol) := fun z e B1 H1 g _ q => by
  obtain ⟨x, ex, e⟩ := bind_some e
  obtain ⟨r, er, e⟩ := map_some e
  subst e
  exact h x ex B1 H1 g _ fun v B2 H2 g2 r2 => hr r er B2 H2 (g.trans g2) _ fun vs B3 H3 g3 r3 => q _ B3 H3 (g2.trans g3) (.cons (r2.up g3) r3)
/-- a length that every list of the text keeps below -/
def lim : Nat := 100000
def tupO (o : Option (List U)) : Option U := o.bind fun xs => if xs.length ≤ lim then some (.tup xs) else none
def lstO (o : Option (List U)) : Option U := o.bind fun xs => if xs.length ≤ lim then some (.lst xs) else none
theorem lim_size {n : Nat} (h : n ≤ lim) : n ≤ sizeLine := Nat.le_trans h (by decide)
theorem lim_lt {n : Nat} (h : n ≤ lim) : n < sizeLine := Nat.lt_of_le_of_lt h (by decide)
theorem Rps.new {xs : List U} {vs : List V} (r : Rps B xs vs) (s : Same B H) {p : Addr} {o : HO} (hp : H p = none) : Rps (upd B p o) xs vs := r.up (Go.new s hp)
theorem eo_tup {tl : TA} {ol : Option (List U)} (h : EvA tl σ B H ol) : EvO (tTup tl) σ B H (tupO ol) := fun z e B1 H1 g Q q => by
  obtain ⟨x, ex, e⟩ := bind_some e
  split at e
  · rename_i hl
    cases e
    exact h x ex B1 H1 g _ fun vs B2 H2 g2 r => ⟨by rw [r.length]; exact lim_size hl, fun p hp => q _ _ _ (g2.trans (Go.new g2.bh hp)) (.tup upd_same (r.new g2.bh hp))⟩
  · cases e
theorem eo_lst {tl : TA} {ol : Option (List U)} (h : EvA tl σ B H ol) : EvO (tLst tl) σ B H (lstO ol) := fun z e B1 H1 g Q q => by
  obtain ⟨x, ex, e⟩ := bind_some e
  split at e
  · rename_i hl
    cases e
    exact h x ex B1 H1 g _ fun vs B2 H2 g2 r => ⟨by rw [r.length]; exact lim_size hl, fun p hp => q _ _ _ (g2.trans (Go.new g2.bh hp)) (.lst upd_same (r.new g2.bh hp))⟩
  · cases e
end
/-! ### the promise of a def -/
def spU (m : List U → Option U) : Sp := fun vs H Q _ => ∃ B xs r, Same B H ∧ Rps B xs vs ∧ m xs = some r ∧ ∀ v B2 H2, Go B H B2 H2 → Rp B2 r v → Q v H2
theorem eo_call {σ : St} {B H : Hp} {tl : TA} {ol : Option (List U)} {m : List U → Option U} {E : XK} (h : EvA tl σ B H ol) : EvO (tCall (spU m) [] E tl) σ B H (ol.bind m) := fun z e B1 H1 g Q q => by
  obtain ⟨x, ex, e⟩ := bind_some e
  refine h x ex B1 H1 g _ fun vs B2 H2 g2 r => ?_
  show spU m (vs ++ []) H2 Q E
  rw [List.append_nil]
  exact ⟨B2, x, z, g2.bh, r, e, fun v B3 H3 g3 r3 => q v B3 H3 (g2.trans g3) r3⟩
end Dn
set_option Elab.async false
set_option linter.all false
set_option maxRecDepth 100000
set_option maxHeartbeats 2000000
namespace Dn
open PySem L2
variable [CTab]
/-! ### == of data -/
def U.plain : U → Bool
  | .non | .bl _ | .int _ | .str _ | .tup _ | .lst _ => true
  | _ => false
def eqK : U → U → Option Bool
  | .non, .non => some true
  | .bl a, .bl b => some (a == b)
  | .bl a, .int b => some ((if a then 1 else 0) == b)
  | .int a, .bl b => some (a == (if b then 1 else 0))
  | .int a, .int b => some (a == b)
  | .str a, .str b => some (a == b)
  | .tup _, .tup _ => none
  | .lst _, .lst _ => none
  | x, y => if (x.plain && y.plain) = true then some false else none
def allO (f : U → U → Option Bool) : List U → List U → Option Bool
  | x :: xs, y :: ys => (f x y).bind fun a => (allO f xs ys).map fun b => a && b
  | _, _ => some true
def eqO : Nat → U → U → Option Bool
  | 0, _, _ => none
  | n + 1, .tup xs, .tup ys => (allO (eqO n) xs ys).map fun b => b && (xs.length == ys.length)
  | n + 1, .lst xs, .lst ys => if xs.length = ys.length then allO (eqO n) xs ys else some false
  | n + 1, .frl xs, .lst ys => if xs.length = ys.length then allO (eqO n) xs ys else some false
  | n + 1, .lst xs, .frl ys => if xs.length = ys.length then allO (eqO n) xs ys else some false
  | _ + 1, x, y => eqK x y
def nth (f : U → U → Option Bool) (xs ys : List U) (j : Nat) : Bool := ((xs[j]?.bind fun x => ys[j]?.bind fun y => f x y).getD true)
theorem allO_nth {f : U → U → Option Bool} : ∀ {xs ys : List U} {b : Bool}, allO f xs ys = some b →
    (∀ (j : Nat) x y, xs[j]? = some x → ys[j]? = some y → f x y = some (nth f xs ys j)) ∧ (List.range (min xs.length ys.length)).all (nth f xs ys) = b
  | [], ys, b, h => by
    cases h
    exact ⟨fun j x y e => by simp at e, by simp⟩
  | x :: xs, [], b, h => by
    cases h
    exact ⟨fun j x y e e2 => by simp at e2, by simp⟩
  | x :: xs, y :: ys, b, h => by
    obtain ⟨a, ea, h⟩ := bind_some h
    obtain ⟨c, ec, h⟩ := map_some h
    obtain ⟨i1, i2⟩ := allO_nth ec
    refine ⟨fun j x' y' e1 e2 => ?_, ?_⟩
    · cases j with
      | zero =>
        simp at e1 e2
        subst e1 e2
        simp [nth, ea]
      | succ j =>
        have := i1 j x' y' (by simpa using e1) (by simpa using e2)
        simpa [nth] using this
    · rw [List.length_cons, List.length_cons, Nat.succ_min_succ, List.range_succ_eq_map, List.all_cons, List.all_map, ← h, ← i2]
      have e0 : nth f (x :: xs) (y :: ys) 0 = a := by simp [nth, ea]
      rw [e0]
      have e1 : (nth f (x :: xs) (y :: ys) ∘ Nat.succ) = nth f xs ys := by
        funext j
        simp [nth]
      rw [e1]
/-! ### what stands at one place is equal to itself -/
section
variable {B : Hp}
theorem allO_id {n : Nat} (ih : ∀ {x y : U} {v : V} {b : Bool}, Rp B x v → Rp B y v → eqO n x y = some b → b = true) : ∀ {xs ys : List U} {vs : List V} {b : Bool}, Rps B xs vs → Rps B ys vs → allO (eqO n) xs ys = some b → b = true
  | _, _, _, b, .nil, .nil, h => by cases h; rfl
  | _, _, _, b, .cons r t, .cons r' t', h => by
    obtain ⟨a, ea, h⟩ := bind_some h
    obtain ⟨c, ec, h⟩ := map_some h
    rw [← h, ih r r' ea, allO_id ih t t' ec]
    rfl
theorem len_id : ∀ {xs ys : List U} {vs : List V}, Rps B xs vs → Rps B ys vs → xs.length = ys.length
  | _, _, _, .nil, .nil => rfl
  | _, _, _, .cons _ t, .cons _ t' => by rw [List.length_cons, List.length_cons, len_id t t']
theorem eq_id : ∀ (n : Nat) {x y : U} {v : V} {b : Bool}, Rp B x v → Rp B y v → eqO n x y = some b → b = true
  | 0, _, _, _, _, _, _, h => by cases h
  | n + 1, _, _, _, b, rx, ry, h => by
    cases rx with
    | non => cases ry; cases h; rfl
    | bl a => cases ry; have h : some (a == a) = some b := h; rw [← Option.some.inj h]; simp
    | int a => cases ry; have h : some (a == a) = some b := h; rw [← Option.some.inj h]; simp
    | str a => cases ry; have h : some (a == a) = some b := h; rw [← Option.some.inj h]; simp
    | @tup a xs vs e r =>
      cases ry with
      | @tup _ ys _ e' r' =>
        rw [e] at e'
        cases e'
        have h : (allO (eqO n) xs ys).map (fun b => b && (xs.length == ys.length)) = some b := h
        obtain ⟨c, ec, h⟩ := map_some h
        rw [← h, allO_id (fun r r' h => eq_id n r r' h) r r' ec, len_id r r']
        simp
      | lst e' r' => rw [e] at e'; cases e'
      | frl e' _ => rw [e] at e'; cases e'
      | dic e' r' => rw [e] at e'; cases e'
      | dit e' r' => rw [e] at e'; cases e'
      | tpd e' _ r' => rw [e] at e'; cases e'
      | dib e' _ r' => rw [e] at e'; cases e'
      | obj e' _ r' => rw [e] at e'; cases e'
      | mt => cases h
      | exc0 _ => cases h
      | exc _ _ _ => cases h
    | @lst a xs vs e r =>
      cases ry with
      | tup e' r' => rw [e] at e'; cases e'
      | @lst _ ys _ e' r' =>
        rw [e] at e'
        cases e'
        have h : (if xs.length = ys.length then allO (eqO n) xs ys else some false) = some b := h
        rw [if_pos (len_id r r')] at h
        exact allO_id (fun r r' h => eq_id n r r' h) r r' h
      | frl e' _ => rw [e] at e'; cases e'
      | dic e' r' => rw [e] at e'; cases e'
      | dit e' r' => rw [e] at e'; cases e'
      | tpd e' _ r' => rw [e] at e'; cases e'
      | dib e' _ r' => rw [e] at e'; cases e'
      | obj e' _ r' => rw [e] at e'; cases e'
      | mt => cases h
      | exc0 _ => cases h
      | exc _ _ _ => cases h
    | @frl a xs vs o e r =>
      cases ry with
      | lst e' r' => rw [e] at e'; cases e'
      | _ => cases h
    | dic _ _ => cases ry <;> cases h
    | dit _ _ => cases ry <;> cases h
    | tpd _ _ _ => cases ry <;> cases h
    | dib _ _ _ => cases ry <;> cases h
    | obj _ _ _ => cases ry <;> cases h
    | mt => cases ry <;> cases h
    | exc0 _ => cases ry <;> cases h
    | exc _ _ _ => cases ry <;> cases h
theorem allO_two {n : Nat} (ih : ∀ {x y z : U} {v : V} {b c : Bool}, Rp B x v → Rp B y v → eqO n x z = some b → eqO n y z = some c → b = c) : ∀ {xs ys zs : List U} {vs : List V} {b c : Bool}, Rps B xs vs → Rps B ys vs → allO (eqO n) xs zs = some b → allO (eqO n) ys zs = some c → b = c
  | _, _, zs, _, b, c, .nil, .nil, h, h' => by rw [h] at h'; exact Option.some.inj h'
  | _, _, [], _, b, c, .cons r t, .cons r' t', h, h' => by cases h; cases h'; rfl
  | _, _, z :: zs, _, b, c, .cons r t, .cons r' t', h, h' => by
    obtain ⟨a, ea, h⟩ := bind_some h
    obtain ⟨d, ed, h⟩ := map_some h
    obtain ⟨a', ea', h'⟩ := bind_some h'
    obtain ⟨d', ed', h'⟩ := map_some h'
    rw [← h, ← h', ih r r' ea ea', allO_two ih t t' ed ed']
theorem eq_two : ∀ (n : Nat) {x y z : U} {v : V} {b c : Bool}, Rp B x v → Rp B y v → eqO n x z = some b → eqO n y z = some c → b = c
  | 0, _, _, _, _, _, _, _, _, h, _ => by cases h
  | n + 1, _, _, z, _, b, c, rx, ry, h, h' => by
    cases rx with
    | non => cases ry; rw [h] at h'; exact Option.some.inj h'
    | bl a => cases ry; rw [h] at h'; exact Option.some.inj h'
    | int a => cases ry; rw [h] at h'; exact Option.some.inj h'
    | str a => cases ry; rw [h] at h'; exact Option.some.inj h'
    | @tup a xs vs e r =>
      cases ry with
      | @tup _ ys _ e' r' =>
        rw [e] at e'
        cases e'
        cases z with
        | tup zs =>
          obtain ⟨d, ed, h⟩ := map_some (show (allO (eqO n) xs zs).map (fun b => b && (xs.length == zs.length)) = some b from h)
          obtain ⟨d', ed', h'⟩ := map_some (show (allO (eqO n) ys zs).map (fun b => b && (ys.length == zs.length)) = some c from h')
          rw [← h, ← h', allO_two (fun r r' h h' => eq_two n r r' h h') r r' ed ed', len_id r r']
        | _ => first | (cases h; done) | exact Option.some.inj (h.symm.trans h')
      | lst e' r' => rw [e] at e'; cases e'
      | frl e' _ => rw [e] at e'; cases e'
      | dic e' r' => rw [e] at e'; cases e'
      | dit e' r' => rw [e] at e'; cases e'
      | tpd e' _ r' => rw [e] at e'; cases e'
      | dib e' _ r' => rw [e] at e'; cases e'
      | obj e' _ r' => rw [e] at e'; cases e'
      | mt => cases z <;> cases h'
      | exc0 _ => cases z <;> cases h'
      | exc _ _ _ => cases z <;> cases h'
    | @lst a xs vs e r =>
      cases ry with
      | tup e' r' => rw [e] at e'; cases e'
      | @lst _ ys _ e' r' =>
        rw [e] at e'
        cases e'
        have ln := len_id r r'
        have fin : ∀ zs : List U, (if xs.length = zs.length then allO (eqO n) xs zs else some false) = some b → (if ys.length = zs.length then allO (eqO n) ys zs else some false) = some c → b = c := fun zs h h' => by
          rw [← ln] at h'
          by_cases hz : xs.length = zs.length
          · rw [if_pos hz] at h h'
            exact allO_two (fun r r' h h' => eq_two n r r' h h') r r' h h'
          · rw [if_neg hz] at h h'
            cases h; cases h'; rfl
        cases z with
        | lst zs => exact fin zs h h'
        | frl zs => exact fin zs h h'
        | _ => first | (cases h; done) | exact Option.some.inj (h.symm.trans h')
      | frl e' _ => rw [e] at e'; cases e'
      | dic e' r' => rw [e] at e'; cases e'
      | dit e' r' => rw [e] at e'; cases e'
      | tpd e' _ r' => rw [e] at e'; cases e'
      | dib e' _ r' => rw [e] at e'; cases e'
      | obj e' _ r' => rw [e] at e'; cases e'
      | mt => cases z <;> cases h'
      | exc0 _ => cases z <;> cases h'
      | exc _ _ _ => cases z <;> cases h'
    | @frl a xs vs o e r =>
      cases ry with
      | tup e' r' => rw [e] at e'; cases e'
      | lst e' r' => rw [e] at e'; cases e'
      | @frl _ ys _ o' e' r' =>
        rw [e] at e'
        cases e'
        cases z with
        | lst zs =>
          have ln := len_id r r'
          have h : (if xs.length = zs.length then allO (eqO n) xs zs else some false) = some b := h
          have h' : (if ys.length = zs.length then allO (eqO n) ys zs else some false) = some c := h'
          rw [← ln] at h'
          by_cases hz : xs.length = zs.length
          · rw [if_pos hz] at h h'
            exact allO_two (fun r r' h h' => eq_two n r r' h h') r r' h h'
          · rw [if_neg hz] at h h'
            cases h; cases h'; rfl
        | _ => cases h
      | dic e' r' => cases z <;> cases h'
      | dit e' r' => cases z <;> cases h'
      | tpd e' _ r' => cases z <;> cases h'
      | dib e' _ r' => cases z <;> cases h'
      | obj e' _ r' => cases z <;> cases h'
      | mt => cases z <;> cases h'
      | exc0 _ => cases z <;> cases h'
      | exc _ _ _ => cases z <;> cases h'
    | dic _ _ => cases z <;> cases h
    | dit _ _ => cases z <;> cases h
    | tpd _ _ _ => cases z <;> cases h
    | dib _ _ _ => cases z <;> cases h
    | obj _ _ _ => cases z <;> cases h
    | mt => cases z <;> cases h
    | exc0 _ => cases z <;> cases h
    | exc _ _ _ => cases z <;> cases h
end
/-! ### what the heap has of plain data -/
section
variable {X : Cx} {pins : List (Addr × Obj)} {σ : St} {H : Hp} {s : Shared}
theorem lst_heapQ (I : Inv X pins σ H s) {xs : List U} {a : Addr} {vs : List V} (h : SqL X.K H a vs) (r : Rps H xs vs) : ∃ its : List Value, s.heap.IsList a its.toArray ∧ its.length = xs.length ∧ ∀ (j : Nat) (hj : j < its.length), ∃ x v, xs[j]? = some x ∧ Rp H x v ∧ RelV v its[j] := by
  obtain ⟨its, rv, pl, _⟩ := I.list h
  refine ⟨its, pl.isList, by rw [← rv.length, r.length], fun j hj => ?_⟩
  have hj' : j < vs.length := by rw [rv.length]; exact hj
  obtain ⟨x, ex, rx⟩ := r.back (List.getElem?_eq_getElem hj')
  obtain ⟨u, eu, ru⟩ := rv.get (List.getElem?_eq_getElem hj')
  rw [List.getElem?_eq_getElem hj] at eu
  cases eu
  exact ⟨x, _, ex, rx, ru⟩
theorem lst_heap (I : Inv X pins σ H s) {xs : List U} {a : Addr} {vs : List V} (h : H a = some (.lst vs)) (r : Rps H xs vs) : ∃ its : List Value, s.heap.IsList a its.toArray ∧ its.length = xs.length ∧ ∀ (j : Nat) (hj : j < its.length), ∃ x v, xs[j]? = some x ∧ Rp H x v ∧ RelV v its[j] := lst_heapQ I (SqL.of h) r
theorem tup_heap (I : Inv X pins σ H s) {xs : List U} {a : Addr} {vs : List V} (h : H a = some (.tup vs)) (r : Rps H xs vs) : ∃ its : List Value, s.heap.IsTuple a its.toArray ∧ its.length = xs.length ∧ ∀ (j : Nat) (hj : j < its.length), ∃ x v, xs[j]? = some x ∧ Rp H x v ∧ RelV v its[j] := by
  obtain ⟨its, rv, pl, _⟩ := I.tuple (SqT.of h)
  refine ⟨its, pl, by rw [← rv.length, r.length], fun j hj => ?_⟩
  have hj' : j < vs.length := by rw [rv.length]; exact hj
  obtain ⟨x, ex, rx⟩ := r.back (List.getElem?_eq_getElem hj')
  obtain ⟨u, eu, ru⟩ := rv.get (List.getElem?_eq_getElem hj')
  rw [List.getElem?_eq_getElem hj] at eu
  cases eu
  exact ⟨x, _, ex, rx, ru⟩
open PySem.SeqAt
theorem eqK_rc (I : Inv X pins σ H s) {A : Around} {x y : U} {b : Bool} {v w : V} {p q : Value} (h : eqK x y = some b) (rx : Rp H x v) (ry : Rp H y w) (rv : RelV v p) (rw' : RelV w q) (hu : A.units < cLine) : RcAt A s p q b := by
  cases rx with
  | non =>
    cases rv
    cases ry with
    | non => cases rw'; cases h; exact RcAt.none_none
    | bl y => cases rw'; cases h; exact RcAt.none_bool y
    | int y => obtain ⟨t, rfl⟩ := rw'; cases h; exact RcAt.none_int y t
    | str y => obtain ⟨t, rfl⟩ := rw'; cases h; exact RcAt.none_str y t
    | lst e r => cases rw'; cases h; obtain ⟨its, hl, _⟩ := lst_heap I e r; exact RcAt.none_list hl hu
    | tup e r => cases rw'; cases h; obtain ⟨its, hl, _⟩ := tup_heap I e r; exact RcAt.none_tuple hl hu
    | _ => cases h
  | bl x =>
    cases rv
    cases ry with
    | non => cases rw'; cases h; exact RcAt.bool_none x
    | bl y => cases rw'; cases h; exact RcAt.bool_bool x y
    | int y => obtain ⟨t, rfl⟩ := rw'; cases h; exact RcAt.bool_int x y t
    | str y => obtain ⟨t, rfl⟩ := rw'; cases h; exact RcAt.bool_str x y t
    | lst e r => cases rw'; cases h; obtain ⟨its, hl, _⟩ := lst_heap I e r; exact RcAt.bool_list x hl hu
    | tup e r => cases rw'; cases h; obtain ⟨its, hl, _⟩ := tup_heap I e r; exact RcAt.bool_tuple x hl hu
    | _ => cases h
  | int x =>
    obtain ⟨t0, rfl⟩ := rv
    cases ry with
    | non => cases rw'; cases h; exact RcAt.int_none x t0
    | bl y => cases rw'; cases h; exact RcAt.int_bool x t0 y
    | int y => obtain ⟨t, rfl⟩ := rw'; cases h; exact RcAt.int_int x t0 y t
    | str y => obtain ⟨t, rfl⟩ := rw'; cases h; exact RcAt.int_str x t0 y t
    | lst e r => cases rw'; cases h; obtain ⟨its, hl, _⟩ := lst_heap I e r; exact RcAt.int_list x t0 hl hu
    | tup e r => cases rw'; cases h; obtain ⟨its, hl, _⟩ := tup_heap I e r; exact RcAt.int_tuple x t0 hl hu
    | _ => cases h
  | str x =>
    obtain ⟨t0, rfl⟩ := rv
    cases ry with
    | non => cases rw'; cases h; exact RcAt.str_none x t0
    | bl y => cases rw'; cases h; exact RcAt.str_bool x t0 y
    | int y => obtain ⟨t, rfl⟩ := rw'; cases h; exact RcAt.str_int x t0 y t
    | str y => obtain ⟨t, rfl⟩ := rw'; cases h; exact RcAt.str_str x t0 y t
    | lst e r => cases rw'; cases h; obtain ⟨its, hl, _⟩ := lst_heap I e r; exact RcAt.str_list x t0 hl hu
    | tup e r => cases rw'; cases h; obtain ⟨its, hl, _⟩ := tup_heap I e r; exact RcAt.str_tuple x t0 hl hu
    | _ => cases h
  | lst e0 r0 =>
    cases rv
    obtain ⟨its0, hl0, _⟩ := lst_heap I e0 r0
    cases ry with
    | non => cases rw'; cases h; exact RcAt.list_none hl0 hu
    | bl y => cases rw'; cases h; exact RcAt.list_bool y hl0 hu
    | int y => obtain ⟨t, rfl⟩ := rw'; cases h; exact RcAt.list_int y t hl0 hu
    | str y => obtain ⟨t, rfl⟩ := rw'; cases h; exact RcAt.list_str y t hl0 hu
    | tup e r => cases rw'; cases h; obtain ⟨its, hl, _⟩ := tup_heap I e r; exact RcAt.list_tuple hl0 hl hu
    | _ => cases h
  | tup e0 r0 =>
    cases rv
    obtain ⟨its0, hl0, _⟩ := tup_heap I e0 r0
    cases ry with
    | non => cases rw'; cases h; exact RcAt.tuple_none hl0 hu
    | bl y => cases rw'; cases h; exact RcAt.tuple_bool y hl0 hu
    | int y => obtain ⟨t, rfl⟩ := rw'; cases h; exact RcAt.tuple_int y t hl0 hu
    | str y => obtain ⟨t, rfl⟩ := rw'; cases h; exact RcAt.tuple_str y t hl0 hu
    | lst e r => cases rw'; cases h; obtain ⟨its, hl, _⟩ := lst_heap I e r; exact RcAt.tuple_list hl0 hl hu
    | _ => cases h
  | frl _ _ => cases ry <;> cases h
  | dic _ _ => cases ry <;> cases h
  | dit _ _ => cases ry <;> cases h
  | tpd _ _ _ => cases ry <;> cases h
  | dib _ _ _ => cases ry <;> cases h
  | mt => cases ry <;> cases h
  | exc0 _ => cases ry <;> cases h
  | exc _ _ _ => cases ry <;> cases h
  | obj _ _ _ => cases ry <;> cases h
theorem eqK_ne (I : Inv X pins σ H s) {A : Around} {x y : U} {b : Bool} {v w : V} {p q : Value} (h : eqK x y = some b) (rx : Rp H x v) (ry : Rp H y w) (rv : RelV v p) (rw' : RelV w q) (hu : A.units < cLine) : RcNeAt A s p q (!b) := by
  cases rx with
  | non =>
    cases rv
    cases ry with
    | non => cases rw'; cases h; exact RcNeAt.none_none
    | bl y => cases rw'; cases h; exact RcNeAt.none_bool y
    | int y => obtain ⟨t, rfl⟩ := rw'; cases h; exact RcNeAt.none_int y t
    | str y => obtain ⟨t, rfl⟩ := rw'; cases h; exact RcNeAt.none_str y t
    | lst e r => cases rw'; cases h; obtain ⟨its, hl, _⟩ := lst_heap I e r; exact RcNeAt.none_list hl hu
    | tup e r => cases rw'; cases h; obtain ⟨its, hl, _⟩ := tup_heap I e r; exact RcNeAt.none_tuple hl hu
    | _ => cases h
  | bl x =>
    cases rv
    cases ry with
    | non => cases rw'; cases h; exact RcNeAt.bool_none x
    | bl y => cases rw'; cases h; exact RcNeAt.bool_bool x y
    | int y => obtain ⟨t, rfl⟩ := rw'; cases h; exact RcNeAt.bool_int x y t
    | str y => obtain ⟨t, rfl⟩ := rw'; cases h; exact RcNeAt.bool_str x y t
    | lst e r => cases rw'; cases h; obtain ⟨its, hl, _⟩ := lst_heap I e r; exact RcNeAt.bool_list x hl hu
    | tup e r => cases rw'; cases h; obtain ⟨its, hl, _⟩ := tup_heap I e r; exact RcNeAt.bool_tuple x hl hu
    | _ => cases h
  | int x =>
    obtain ⟨t0, rfl⟩ := rv
    cases ry with
    | non => cases rw'; cases h; exact RcNeAt.int_none x t0
    | bl y => cases rw'; cases h; exact RcNeAt.int_bool x t0 y
    | int y => obtain ⟨t, rfl⟩ := rw'; cases h; exact RcNeAt.int_int x t0 y t
    | str y => obtain ⟨t, rfl⟩ := rw'; cases h; exact RcNeAt.int_str x t0 y t
    | lst e r => cases rw'; cases h; obtain ⟨its, hl, _⟩ := lst_heap I e r; exact RcNeAt.int_list x t0 hl hu
    | tup e r => cases rw'; cases h; obtain ⟨its, hl, _⟩ := tup_heap I e r; exact RcNeAt.int_tuple x t0 hl hu
    | _ => cases h
  | str x =>
    obtain ⟨t0, rfl⟩ := rv
    cases ry with
    | non => cases rw'; cases h; exact RcNeAt.str_none x t0
    | bl y => cases rw'; cases h; exact RcNeAt.str_bool x t0 y
    | int y => obtain ⟨t, rfl⟩ := rw'; cases h; exact RcNeAt.str_int x t0 y t
    | str y => obtain ⟨t, rfl⟩ := rw'; cases h; exact RcNeAt.str_str x t0 y t
    | lst e r => cases rw'; cases h; obtain ⟨its, hl, _⟩ := lst_heap I e r; exact RcNeAt.str_list x t0 hl hu
    | tup e r => cases rw'; cases h; obtain ⟨its, hl, _⟩ := tup_heap I e r; exact RcNeAt.str_tuple x t0 hl hu
    | _ => cases h
  | lst e0 r0 =>
    cases rv
    obtain ⟨its0, hl0, _⟩ := lst_heap I e0 r0
    cases ry with
    | non => cases rw'; cases h; exact RcNeAt.list_none hl0 hu
    | bl y => cases rw'; cases h; exact RcNeAt.list_bool y hl0 hu
    | int y => obtain ⟨t, rfl⟩ := rw'; cases h; exact RcNeAt.list_int y t hl0 hu
    | str y => obtain ⟨t, rfl⟩ := rw'; cases h; exact RcNeAt.list_str y t hl0 hu
    | tup e r => cases rw'; cases h; obtain ⟨its, hl, _⟩ := tup_heap I e r; exact RcNeAt.list_tuple hl0 hl hu
    | _ => cases h
  | tup e0 r0 =>
    cases rv
    obtain ⟨its0, hl0, _⟩ := tup_heap I e0 r0
    cases ry with
    | non => cases rw'; cases h; exact RcNeAt.tuple_none hl0 hu
    | bl y => cases rw'; cases h; exact RcNeAt.tuple_bool y hl0 hu
    | int y => obtain ⟨t, rfl⟩ := rw'; cases h; exact RcNeAt.tuple_int y t hl0 hu
    | str y => obtain ⟨t, rfl⟩ := rw'; cases h; exact RcNeAt.tuple_str y t hl0 hu
    | lst e r => cases rw'; cases h; obtain ⟨its, hl, _⟩ := lst_heap I e r; exact RcNeAt.tuple_list hl0 hl hu
    | _ => cases h
  | frl _ _ => cases ry <;> cases h
  | dic _ _ => cases ry <;> cases h
  | dit _ _ => cases ry <;> cases h
  | tpd _ _ _ => cases ry <;> cases h
  | dib _ _ _ => cases ry <;> cases h
  | mt => cases ry <;> cases h
  | exc0 _ => cases ry <;> cases h
  | exc _ _ _ => cases ry <;> cases h
  | obj _ _ _ => cases ry <;> cases h
end
end Dn
set_option Elab.async false
set_option linter.all false
set_option maxRecDepth 100000
set_option maxHeartbeats 2000000
namespace Dn
open PySem L2 PySem.SeqAt
variable [CTab]
section
variable {X : Cx} {pins : List (Addr × Obj)} {σ : St} {H : Hp} {s : Shared}
theorem eq_at {A : Around} {n : Nat} {x y : U} {b : Bool} {v w : V} {p q : Value} (h : eqO n x y = some b) (rx : Rp H x v) (ry : Rp H y w) (rv : RelV v p) (rw' : RelV w q) (rc : RcAt A s p q b) : EqAt A s p q b := by
  by_cases e : p = q
  · subst e
    have e1 : v = w := rv.inj rw'
    subst e1
    rw [eq_id n rx ry h]
    exact EqAt.same _
  · have shape : ∀ {u : U} {v : V} {p : Value}, Rp H u v → RelV v p → p = .none ∨ (∃ b, p = .bool b) ∨ (∃ i t, p = .int i t) ∨ (∃ i t, p = .str i t) ∨ ∃ a, p = .ref a := fun {u v p} r rv => by
      cases r with
      | non => exact .inl rv
      | bl b => exact .inr (.inl ⟨_, rv⟩)
      | int i => exact .inr (.inr (.inl ⟨_, rv⟩))
      | str i => exact .inr (.inr (.inr (.inl ⟨_, rv⟩)))
      | _ => exact .inr (.inr (.inr (.inr ⟨_, rv⟩)))
    intro prog w E Q hq
    unfold eqBool
    refine wpAny_holding ?_
    refine wpAny_ite_split (fun hab => absurd (eq_of_beq hab) e) (fun _ => ?_)
    rcases shape rx rv with rfl | ⟨_, rfl⟩ | ⟨_, _, rfl⟩ | ⟨_, _, rfl⟩ | ⟨_, rfl⟩ <;> exact wpAny_bind (rc prog w E _ (wpAny_truthy_bool hq))
theorem eq_lists (I : Inv X pins σ H s) {n : Nat} {A : Around} {xs ys : List U} {b : Bool} {a a' : Addr} {vs ws : List V} (hu0 : A.units < cLine)
    (ih : ∀ {x y : U} {b : Bool} {v w : V} {p q : Value}, eqO n x y = some b → Rp H x v → Rp H y w → RelV v p → RelV w q → RcAt A.in1 s p q b)
    (e : SqL X.K H a vs) (r : Rps H xs vs) (e' : SqL X.K H a' ws) (r' : Rps H ys ws) (h : (if xs.length = ys.length then allO (eqO n) xs ys else some false) = some b) : RcAt A s (.ref a) (.ref a') b ∧ RcNeAt A s (.ref a) (.ref a') (!b) := by
  obtain ⟨its, hl, hn, hi⟩ := lst_heapQ I e r
  obtain ⟨its', hl', hn', hi'⟩ := lst_heapQ I e' r'
  by_cases hz : xs.length = ys.length
  · rw [if_pos hz] at h
    obtain ⟨n1, n2⟩ := allO_nth h
    have he : ∀ j (h1 : j < its.toArray.size) (h2 : j < its'.toArray.size), EqAt A.in1 s its.toArray[j] its'.toArray[j] (nth (eqO n) xs ys j) := fun j h1 h2 => by
      obtain ⟨x1, v1, e1, r1, rv1⟩ := hi j (by simpa using h1)
      obtain ⟨x2, v2, e2, r2, rv2⟩ := hi' j (by simpa using h2)
      have := eq_at (n1 j x1 x2 e1 e2) r1 r2 rv1 rv2 (ih (n1 j x1 x2 e1 e2) r1 r2 rv1 rv2)
      simpa using this
    have eb : (List.range its.toArray.size).all (nth (eqO n) xs ys) = b := by
      rw [← n2]
      simp only [List.size_toArray, hn, hz, Nat.min_self]
    have hsz : its.toArray.size = its'.toArray.size := by simp [hn, hn', hz]
    rw [← eb]
    exact ⟨RcAt.lists hl hl' hsz hu0 he, RcNeAt.lists hl hl' hsz hu0 he⟩
  · rw [if_neg hz] at h
    cases h
    have hsz : (its.toArray.size != its'.toArray.size) = true := by simp [hn, hn', hz]
    exact ⟨RcAt.lists_lengths hl hl' hsz hu0, RcNeAt.lists_lengths hl hl' hsz hu0⟩
theorem eq_rc (I : Inv X pins σ H s) : ∀ (n : Nat) {A : Around} {x y : U} {b : Bool} {v w : V} {p q : Value}, eqO n x y = some b → Rp H x v → Rp H y w → RelV v p → RelV w q → A.units + n < cLine → RcAt A s p q b ∧ RcNeAt A s p q (!b)
  | 0, _, _, _, _, _, _, _, _, h, _, _, _, _, _ => by cases h
  | n + 1, A, x, y, b, v, w, p, q, h, rx, ry, rv, rw', hu => by
    have hu0 : A.units < cLine := by omega
    have hu1 : A.in1.units + n < cLine := by show A.units + 1 + n < cLine; omega
    by_cases hk : eqK x y = some b
    · exact ⟨eqK_rc I hk rx ry rv rw' hu0, eqK_ne I hk rx ry rv rw' hu0⟩
    · cases rx with
      | @tup a xs vs e r =>
        cases ry with
        | @tup a' ys ws e' r' =>
          cases rv; cases rw'
          obtain ⟨c, ec, h⟩ := map_some h
          obtain ⟨n1, n2⟩ := allO_nth ec
          obtain ⟨its, hl, hn, hi⟩ := tup_heap I e r
          obtain ⟨its', hl', hn', hi'⟩ := tup_heap I e' r'
          have he : ∀ j (h1 : j < its.toArray.size) (h2 : j < its'.toArray.size), EqAt A.in1 s its.toArray[j] its'.toArray[j] (nth (eqO n) xs ys j) := fun j h1 h2 => by
            obtain ⟨x1, v1, e1, r1, rv1⟩ := hi j (by simpa using h1)
            obtain ⟨x2, v2, e2, r2, rv2⟩ := hi' j (by simpa using h2)
            have := eq_at (n1 j x1 x2 e1 e2) r1 r2 rv1 rv2 (eq_rc I n (n1 j x1 x2 e1 e2) r1 r2 rv1 rv2 hu1).1
            simpa using this
          have eb : ((List.range (min its.toArray.size its'.toArray.size)).all (nth (eqO n) xs ys) && its.toArray.size == its'.toArray.size) = b := by
            rw [← h]
            simp only [List.size_toArray, hn, hn', n2]
          rw [← eb]
          exact ⟨RcAt.tuples hl hl' hu0 he, RcNeAt.tuples hl hl' hu0 he⟩
        | _ => exact absurd h hk
      | @lst a xs vs e r =>
        cases ry with
        | @lst a' ys ws e' r' =>
          cases rv; cases rw'
          exact eq_lists I hu0 (fun h1 h2 h3 h4 h5 => (eq_rc I n h1 h2 h3 h4 h5 hu1).1) (SqL.of e) r (SqL.of e') r' h
        | @frl a' ys ws o' e' r' =>
          cases rv; cases rw'
          exact eq_lists I hu0 (fun h1 h2 h3 h4 h5 => (eq_rc I n h1 h2 h3 h4 h5 hu1).1) (SqL.of e) r (.inl (.inr ⟨o', e'⟩)) r' h
        | _ => exact absurd h hk
      | @frl a xs vs o e r =>
        cases ry with
        | @lst a' ys ws e' r' =>
          cases rv; cases rw'
          exact eq_lists I hu0 (fun h1 h2 h3 h4 h5 => (eq_rc I n h1 h2 h3 h4 h5 hu1).1) (.inl (.inr ⟨o, e⟩)) r (SqL.of e') r' h
        | _ => exact absurd h hk
      | _ => cases ry <;> exact absurd h hk
end
/-- how deep data may lie -/
def dep : Nat := 40
def rEqU : R2 := fun x y H Q => ∃ u w b, Rp H u x ∧ Rp H w y ∧ eqO dep u w = some b ∧ Q (.bl b) H
def rNeU : R2 := fun x y H Q => ∃ u w b, Rp H u x ∧ Rp H w y ∧ eqO dep u w = some b ∧ Q (.bl (!b)) H
section
variable {X : Cx}
theorem op_eqU (hu : X.A.units + 64 < cLine) : OpR X (compareOp .Eq) rEqU := by
  intro pins s σ H x y v u Q I rx ry h
  obtain ⟨d, e, b, hd, he, hb, q⟩ := h
  exact (eq_rc I dep hb hd he rx ry (by unfold dep; omega)).1 _ _ _ _ ⟨.bl b, H, I, rfl, q⟩
theorem op_neU (hu : X.A.units + 64 < cLine) : OpR X (compareOp .NotEq) rNeU := by
  intro pins s σ H x y v u Q I rx ry h
  obtain ⟨d, e, b, hd, he, hb, q⟩ := h
  exact (eq_rc I dep hb hd he rx ry (by unfold dep; omega)).2 _ _ _ _ ⟨.bl _, H, I, rfl, q⟩
end
def eqV2 (x y : U) : Option U := (eqO dep x y).map U.bl
def neV2 (x y : U) : Option U := (eqO dep x y).map fun b => U.bl (!b)
theorem rv_eq : RV rEqU eqV2 := fun x y z e v w B H s rx ry Q q => by
  obtain ⟨b, eb, e⟩ := map_some e
  subst e
  exact ⟨x, y, b, rx.in s, ry.in s, eb, q _ B H (Go.refl s) (.bl b)⟩
theorem rv_ne : RV rNeU neV2 := fun x y z e v w B H s rx ry Q q => by
  obtain ⟨b, eb, e⟩ := map_some e
  subst e
  exact ⟨x, y, b, rx.in s, ry.in s, eb, q _ B H (Go.refl s) (.bl _)⟩
/-! ### x in xs -/
def inO (n : Nat) (x : U) : List U → Option Bool
  | [] => some false
  | y :: ys => (eqO n y x).bind fun a => (inO n x ys).map fun b => a || b
/-- lists and tuples -/
def U.seq : U → Option (List U)
  | .lst xs => some xs
  | .tup xs => some xs
  | .frl xs => some xs
  | _ => none
/-- .. and known tuples -/
def U.sqI : U → Option (List U)
  | .lst xs => some xs
  | .tup xs => some xs
  | .tpd xs => some xs
  | .frl xs => some xs
  | _ => none
section
variable {X : Cx} {pins : List (Addr × Obj)} {σ : St} {H : Hp} {s : Shared}
open Classical in
noncomputable def eqOf (H : Hp) (n : Nat) (x : U) (p : Value) : Bool := if ∃ y v, Rp H y v ∧ RelV v p ∧ eqO n y x = some true then true else false
theorem eqOf_is {n : Nat} {x y : U} {v : V} {p : Value} {b : Bool} (r : Rp H y v) (rv : RelV v p) (h : eqO n y x = some b) : eqOf H n x p = b := by
  unfold eqOf
  cases b with
  | true => rw [if_pos ⟨y, v, r, rv, h⟩]
  | false =>
    rw [if_neg]
    rintro ⟨y', v', r', rv', h'⟩
    have e1 : v = v' := rv.inj rv'
    subst e1
    cases eq_two n r r' h h'
theorem inO_any {n : Nat} {x : U} : ∀ {xs : List U} {vs : List V} {its : List Value} {b : Bool}, Rps H xs vs → Vals vs its → inO n x xs = some b →
    its.any (eqOf H n x) = b ∧ ∀ y ∈ its, ∃ u v c, Rp H u v ∧ RelV v y ∧ eqO n u x = some c ∧ eqOf H n x y = c
  | _, _, _, b, .nil, .nil, h => by cases h; exact ⟨rfl, fun y hy => nomatch hy⟩
  | _, _, _, b, .cons r t, .cons rv tv, h => by
    obtain ⟨a, ea, h⟩ := bind_some h
    obtain ⟨c, ec, h⟩ := map_some h
    obtain ⟨i1, i2⟩ := inO_any t tv ec
    refine ⟨?_, fun y hy => ?_⟩
    · rw [List.any_cons, i1, eqOf_is r rv ea, h]
    · rcases List.mem_cons.mp hy with e | hy
      · subst e
        exact ⟨_, _, a, r, rv, ea, eqOf_is r rv ea⟩
      · exact i2 y hy
end
def rInU (neg : Bool) : R2 := fun x y H Q => ∃ u w xs b, Rp H u x ∧ Rp H w y ∧ w.sqI = some xs ∧ inO dep u xs = some b ∧ Q (.bl (if neg then !b else b)) H
section
variable {X : Cx}
theorem op_inU (hu : X.A.units + 64 < cLine) : OpR X (compareOp .In) (rInU false) := by
  intro pins s σ H x y v u Q I rx ry h
  obtain ⟨d, e, xs, b, hd, he, hs, hb, q⟩ := h
  have room : X.A.in1.units + dep < cLine := by show X.A.units + 1 + dep < cLine; unfold dep; omega
  cases he with
  | lst h r =>
    cases hs; cases ry
    obtain ⟨its, rv, pl, _⟩ := I.list (SqL.of h)
    obtain ⟨i1, i2⟩ := inO_any r rv hb
    refine in_listAt (eqOf H dep d) pl.isList (fun y hy => ?_) ⟨.bl _, H, I, ?_, q⟩
    · obtain ⟨u1, v1, c, r1, rv1, e1, e2⟩ := i2 y (by simpa using hy)
      rw [e2]
      exact eq_at e1 r1 hd rv1 rx (eq_rc I dep e1 r1 hd rv1 rx room).1
    · show Value.bool _ = Value.bool _
      rw [← i1]
      simp
  | @frl _ _ _ o h r =>
    cases hs; cases ry
    obtain ⟨its, rv, pl, _⟩ := I.list (.inl (.inr ⟨o, h⟩))
    obtain ⟨i1, i2⟩ := inO_any r rv hb
    refine in_listAt (eqOf H dep d) pl.isList (fun y hy => ?_) ⟨.bl _, H, I, ?_, q⟩
    · obtain ⟨u1, v1, c, r1, rv1, e1, e2⟩ := i2 y (by simpa using hy)
      rw [e2]
      exact eq_at e1 r1 hd rv1 rx (eq_rc I dep e1 r1 hd rv1 rx room).1
    · show Value.bool _ = Value.bool _
      rw [← i1]
      simp
  | tup h r =>
    cases hs; cases ry
    obtain ⟨its, rv, pl, _⟩ := I.tuple (SqT.of h)
    obtain ⟨i1, i2⟩ := inO_any r rv hb
    refine in_tupleAt (eqOf H dep d) pl (fun y hy => ?_) ⟨.bl _, H, I, ?_, q⟩
    · obtain ⟨u1, v1, c, r1, rv1, e1, e2⟩ := i2 y (by simpa using hy)
      rw [e2]
      exact eq_at e1 r1 hd rv1 rx (eq_rc I dep e1 r1 hd rv1 rx room).1
    · show Value.bool _ = Value.bool _
      rw [← i1]
      simp
  | @tpd _ _ _ o h hdn r =>
    cases hs; cases ry
    obtain ⟨its, rv, pl, _⟩ := I.tuple (.inl (.inr ⟨o, h⟩))
    obtain ⟨i1, i2⟩ := inO_any r rv hb
    refine in_tupleAt (eqOf H dep d) pl (fun y hy => ?_) ⟨.bl _, H, I, ?_, q⟩
    · obtain ⟨u1, v1, c, r1, rv1, e1, e2⟩ := i2 y (by simpa using hy)
      rw [e2]
      exact eq_at e1 r1 hd rv1 rx (eq_rc I dep e1 r1 hd rv1 rx room).1
    · show Value.bool _ = Value.bool _
      rw [← i1]
      simp
  | _ => cases hs
theorem op_notInU (hu : X.A.units + 64 < cLine) : OpR X (compareOp .NotIn) (rInU true) := by
  intro pins s σ H x y v u Q I rx ry h
  obtain ⟨d, e, xs, b, hd, he, hs, hb, q⟩ := h
  have room : X.A.in1.units + dep < cLine := by show X.A.units + 1 + dep < cLine; unfold dep; omega
  cases he with
  | lst h r =>
    cases hs; cases ry
    obtain ⟨its, rv, pl, _⟩ := I.list (SqL.of h)
    obtain ⟨i1, i2⟩ := inO_any r rv hb
    refine notIn_listAt (eqOf H dep d) pl.isList (fun y hy => ?_) ⟨.bl _, H, I, ?_, q⟩
    · obtain ⟨u1, v1, c, r1, rv1, e1, e2⟩ := i2 y (by simpa using hy)
      rw [e2]
      exact eq_at e1 r1 hd rv1 rx (eq_rc I dep e1 r1 hd rv1 rx room).1
    · show Value.bool _ = Value.bool _
      rw [← i1]
      simp
  | @frl _ _ _ o h r =>
    cases hs; cases ry
    obtain ⟨its, rv, pl, _⟩ := I.list (.inl (.inr ⟨o, h⟩))
    obtain ⟨i1, i2⟩ := inO_any r rv hb
    refine notIn_listAt (eqOf H dep d) pl.isList (fun y hy => ?_) ⟨.bl _, H, I, ?_, q⟩
    · obtain ⟨u1, v1, c, r1, rv1, e1, e2⟩ := i2 y (by simpa using hy)
      rw [e2]
      exact eq_at e1 r1 hd rv1 rx (eq_rc I dep e1 r1 hd rv1 rx room).1
    · show Value.bool _ = Value.bool _
      rw [← i1]
      simp
  | tup h r =>
    cases hs; cases ry
    obtain ⟨its, rv, pl, _⟩ := I.tuple (SqT.of h)
    obtain ⟨i1, i2⟩ := inO_any r rv hb
    refine notIn_tupleAt (eqOf H dep d) pl (fun y hy => ?_) ⟨.bl _, H, I, ?_, q⟩
    · obtain ⟨u1, v1, c, r1, rv1, e1, e2⟩ := i2 y (by simpa using hy)
      rw [e2]
      exact eq_at e1 r1 hd rv1 rx (eq_rc I dep e1 r1 hd rv1 rx room).1
    · show Value.bool _ = Value.bool _
      rw [← i1]
      simp
  | @tpd _ _ _ o h hdn r =>
    cases hs; cases ry
    obtain ⟨its, rv, pl, _⟩ := I.tuple (.inl (.inr ⟨o, h⟩))
    obtain ⟨i1, i2⟩ := inO_any r rv hb
    refine notIn_tupleAt (eqOf H dep d) pl (fun y hy => ?_) ⟨.bl _, H, I, ?_, q⟩
    · obtain ⟨u1, v1, c, r1, rv1, e1, e2⟩ := i2 y (by simpa using hy)
      rw [e2]
      exact eq_at e1 r1 hd rv1 rx (eq_rc I dep e1 r1 hd rv1 rx room).1
    · show Value.bool _ = Value.bool _
      rw [← i1]
      simp
  | _ => cases hs
end
end Dn
set_option Elab.async false
set_option linter.all false
set_option maxRecDepth 100000
set_option maxHeartbeats 2000000
namespace Dn
open PySem L2
variable [CTab]
/-! ### + - * // % ** -->  -/
def rAddU (K : PySem.W.Frag) : R2 := fun x y H Q => rI0 (fun i j => .int (i + j)) x y H Q ∨ (∃ i j, x = .str i ∧ y = .str j ∧ i.length + j.length ≤ sizeLine ∧ Q (.str (i ++ j)) H) ∨ rCat x y H Q ∨ rCatA K x y H Q
def rMulU : R2 := fun x y H Q => rI CMul (fun i j => .int (i * j)) x y H Q ∨ rRep x y H Q
section
variable {X : Cx}
theorem op_addU : OpR X (binaryOp .Add) (rAddU X.K) := op_add.or (op_add_str.or (op_cat.or op_catA))
theorem op_mulU : OpR X (binaryOp .Mult) rMulU := op_mul.or op_rep
end
def addV : U → U → Option U
  | .int i, .int j => some (.int (i + j))
  | .str i, .str j => if i.length + j.length ≤ lim then some (.str (i ++ j)) else none
  | .lst xs, .lst ys => if xs.length + ys.length ≤ lim then some (.lst (xs ++ ys)) else none
  | .tup xs, .tup ys => if xs.length + ys.length ≤ lim then some (.tup (xs ++ ys)) else none
  | _, _ => none
theorem rv_add {K : PySem.W.Frag} : RV (rAddU K) addV := fun x y z e v w B H s rx ry Q q => by
  cases rx with
  | int i =>
    cases ry with
    | int j => cases e; exact .inl ⟨i, j, rfl, rfl, q _ B H (Go.refl s) (.int _)⟩
    | _ => cases e
  | str i =>
    cases ry with
    | str j =>
      have e : (if i.length + j.length ≤ lim then some (U.str (i ++ j)) else none) = some z := e
      split at e
      · rename_i hl
        cases e; exact .inr (.inl ⟨i, j, rfl, rfl, lim_size hl, q _ B H (Go.refl s) (.str _)⟩)
      · cases e
    | _ => cases e
  | @lst a xs vs h r =>
    cases ry with
    | @lst b ys ws h' r' =>
      have e : (if xs.length + ys.length ≤ lim then some (U.lst (xs ++ ys)) else none) = some z := e
      split at e
      · rename_i hl
        cases e
        refine .inr (.inr (.inl ⟨a, b, vs, ws, rfl, rfl, s _ _ h, s _ _ h', ?_, fun p hp => q _ _ _ (Go.new s hp) (.lst upd_same ((r.append r').new s hp))⟩))
        rw [r.length, r'.length]; exact lim_size hl
      · cases e
    | _ => cases e
  | @tup a xs vs h r =>
    cases ry with
    | @tup b ys ws h' r' =>
      have e : (if xs.length + ys.length ≤ lim then some (U.tup (xs ++ ys)) else none) = some z := e
      split at e
      · rename_i hl
        cases e
        refine .inr (.inr (.inr ⟨a, b, vs, ws, rfl, rfl, SqT.of (s _ _ h), SqT.of (s _ _ h'), ?_, fun hv => ?_, fun _ hw => ?_, fun _ _ p hp => q _ _ _ (Go.new s hp) (.tup upd_same ((r.append r').new s hp))⟩))
        · rw [r.length, r'.length]; exact lim_size hl
        · subst hv; cases r; exact q _ B H (Go.refl s) (.tup h' r')
        · subst hw; cases r'; rw [List.append_nil] at q; exact q _ B H (Go.refl s) (.tup h r)
      · cases e
    | _ => cases e
  | _ => cases e
def mulV : U → U → Option U
  | .int i, .int j => if (-(2 ^ 64) < i ∧ i < 2 ^ 64) ∨ (-(2 ^ 64) < j ∧ j < 2 ^ 64) then some (.int (i * j)) else none
  | .lst xs, .int j => if 0 ≤ j ∧ j ≤ 1000 ∧ xs.length * j.toNat ≤ lim then some (.lst (List.replicate j.toNat xs).flatten) else none
  | _, _ => none
theorem Rps.flat {B : Hp} {xs : List U} {vs : List V} (r : Rps B xs vs) : ∀ n : Nat, Rps B (List.replicate n xs).flatten (List.replicate n vs).flatten
  | 0 => .nil
  | n + 1 => by
    rw [List.replicate_succ, List.replicate_succ, List.flatten_cons, List.flatten_cons]
    exact r.append (Rps.flat r n)
theorem rv_mul : RV rMulU mulV := fun x y z e v w B H s rx ry Q q => by
  cases rx with
  | int i =>
    cases ry with
    | int j =>
      have e : (if (-(2 ^ 64) < i ∧ i < 2 ^ 64) ∨ (-(2 ^ 64) < j ∧ j < 2 ^ 64) then some (U.int (i * j)) else none) = some z := e
      split at e
      · rename_i hl
        cases e; exact .inl ⟨i, j, rfl, rfl, hl, q _ B H (Go.refl s) (.int _)⟩
      · cases e
    | _ => cases e
  | @lst a xs vs h r =>
    cases ry with
    | int j =>
      have e : (if 0 ≤ j ∧ j ≤ 1000 ∧ xs.length * j.toNat ≤ lim then some (U.lst (List.replicate j.toNat xs).flatten) else none) = some z := e
      split at e
      · rename_i hl
        cases e
        refine .inr ⟨a, j, vs, rfl, rfl, s _ _ h, by omega, by omega, by rw [r.length]; exact lim_size hl.2.2, fun p hp => q _ _ _ (Go.new s hp) (.lst upd_same ((r.flat _).new s hp))⟩
      · cases e
    | _ => cases e
  | _ => cases e
def iiV (g : Int → Int → Option U) : U → U → Option U
  | .int i, .int j => g i j
  | _, _ => none
theorem rv_ii {g : Int → Int → V} {g' : Int → Int → Option U} (h : ∀ i j z, g' i j = some z → ∀ B, Rp B z (g i j)) : RV (rI0 g) (iiV g') := fun x y z e v w B H s rx ry Q q => by
  cases rx with
  | int i =>
    cases ry with
    | int j => exact ⟨i, j, rfl, rfl, q _ B H (Go.refl s) (h i j z e B)⟩
    | _ => cases e
  | _ => cases e
theorem rv_iic {C : Int → Int → Prop} {g : Int → Int → V} {g' : Int → Int → Option U} (h : ∀ i j z, g' i j = some z → C i j ∧ ∀ B, Rp B z (g i j)) : RV (rI C g) (iiV g') := fun x y z e v w B H s rx ry Q q => by
  cases rx with
  | int i =>
    cases ry with
    | int j => exact ⟨i, j, rfl, rfl, (h i j z e).1, q _ B H (Go.refl s) ((h i j z e).2 B)⟩
    | _ => cases e
  | _ => cases e
def subV : U → U → Option U := iiV fun i j => some (.int (i - j))
theorem rv_sub : RV (rI0 fun i j => .int (i - j)) subV := rv_ii fun i j z e B => by cases e; exact .int _
def ltV : U → U → Option U := iiV fun i j => some (.bl (decide (i < j)))
theorem rv_lt : RV (rI0 fun i j => .bl (decide (i < j))) ltV := rv_ii fun i j z e B => by cases e; exact .bl _
def leV : U → U → Option U := iiV fun i j => some (.bl (decide (i ≤ j)))
theorem rv_le : RV (rI0 fun i j => .bl (decide (i ≤ j))) leV := rv_ii fun i j z e B => by cases e; exact .bl _
def gtV : U → U → Option U := iiV fun i j => some (.bl (decide (j < i)))
theorem rv_gt : RV (rI0 fun i j => .bl (decide (j < i))) gtV := rv_ii fun i j z e B => by cases e; exact .bl _
def geV : U → U → Option U := iiV fun i j => some (.bl (decide (j ≤ i)))
theorem rv_ge : RV (rI0 fun i j => .bl (decide (j ≤ i))) geV := rv_ii fun i j z e B => by cases e; exact .bl _
def modV : U → U → Option U := iiV fun i j => if 0 < j then some (.int (i % j)) else none
theorem rv_mod : RV (rI (fun _ j => 0 < j) fun i j => .int (i % j)) modV := rv_iic fun i j z e => by
  split at e
  · rename_i hj
    cases e; exact ⟨hj, fun B => .int _⟩
  · cases e
def fdivV : U → U → Option U := iiV fun i j => if 0 < j ∧ j < 1073741824 then some (.int (i / j)) else none
theorem rv_fdiv : RV (rI CDiv fun i j => .int (i / j)) fdivV := rv_iic fun i j z e => by
  split at e
  · rename_i hj
    cases e; exact ⟨hj, fun B => .int _⟩
  · cases e
def powV : U → U → Option U := iiV fun i j => if 0 ≤ j ∧ j ≤ 1000000 ∧ i.natAbs < 2 ^ 64 then some (.int (i ^ j.toNat)) else none
theorem rv_pow : RV (rI CPow fun i j => .int (i ^ j.toNat)) powV := rv_iic fun i j z e => by
  split at e
  · rename_i hj
    cases e; exact ⟨hj, fun B => .int _⟩
  · cases e
def negV : U → Option U
  | .int i => some (.int (-i))
  | _ => none
theorem ru_neg : RU (rU fun i => .int (-i)) negV := fun x z e v B H s rx Q q => by
  cases rx with
  | int i => cases e; exact ⟨i, rfl, q _ B H (Go.refl s) (.int _)⟩
  | _ => cases e
/-! ### is, is not: None, truths -/
def rIsU : R2 := fun x y H Q => (y = .non ∧ Q (.bl (decide (x = .non))) H) ∨ ∃ a b, x = .bl a ∧ y = .bl b ∧ Q (.bl (decide (a = b))) H
def rIsNotU : R2 := fun x y H Q => (y = .non ∧ Q (.bl (!decide (x = .non))) H) ∨ ∃ a b, x = .bl a ∧ y = .bl b ∧ Q (.bl (!decide (a = b))) H
theorem op_isU {X : Cx} : OpR X (compareOp .Is) rIsU := op_isN.or op_is_bl
theorem op_isNotU {X : Cx} : OpR X (compareOp .IsNot) rIsNotU := op_notN.or op_isnot_bl
def U.isNon : U → Bool
  | .non => true
  | _ => false
def isB : U → U → Option Bool
  | x, .non => some x.isNon
  | .bl a, .bl b => some (decide (a = b))
  | _, _ => none
theorem Rp.isNon {B : Hp} {x : U} {v : V} (r : Rp B x v) : x.isNon = decide (v = .non) := by
  cases r with
  | non => rfl
  | _ => rw [decide_eq_false (fun z => nomatch z)]; rfl
def isV (x y : U) : Option U := (isB x y).map U.bl
def isNotV (x y : U) : Option U := (isB x y).map fun b => U.bl (!b)
theorem rv_is : RV rIsU isV := fun x y z e v w B H s rx ry Q q => by
  obtain ⟨b, eb, e⟩ := map_some e
  subst e
  cases ry with
  | non =>
    have eb : some x.isNon = some b := by cases x <;> exact eb
    cases eb
    rw [rx.isNon] at q
    exact .inl ⟨rfl, q _ B H (Go.refl s) (.bl _)⟩
  | bl c =>
    cases rx with
    | bl a => cases eb; exact .inr ⟨a, c, rfl, rfl, q _ B H (Go.refl s) (.bl _)⟩
    | _ => cases eb
  | _ => cases rx <;> cases eb
theorem rv_isNot : RV rIsNotU isNotV := fun x y z e v w B H s rx ry Q q => by
  obtain ⟨b, eb, e⟩ := map_some e
  subst e
  cases ry with
  | non =>
    have eb : some x.isNon = some b := by cases x <;> exact eb
    cases eb
    rw [rx.isNon] at q
    exact .inl ⟨rfl, q _ B H (Go.refl s) (.bl _)⟩
  | bl c =>
    cases rx with
    | bl a => cases eb; exact .inr ⟨a, c, rfl, rfl, q _ B H (Go.refl s) (.bl _)⟩
    | _ => cases eb
  | _ => cases rx <;> cases eb
/-! ### in: lists, tuples; one sign in a text; a key in a dict -/
def U.key : U → Option Key
  | .int i => some (.inl i)
  | .str s => some (.inr s)
  | _ => none
def keysL : List U → Option (List Key)
  | [] => some []
  | x :: xs => x.key.bind fun k => (keysL xs).map fun r => k :: r
def lookK {κ : Type} [DecidableEq κ] (kvs : List (κ × U)) (k : κ) : Option U := (kvs.find? fun kv => decide (kv.1 = k)).map (·.2)
/-- what a dict has at a key; none: no such thing can be asked -/
def dgetO : U → U → Option (Option U)
  | .dic kvs, y => y.key.map fun k => lookK kvs k
  | .dit kvs, .tup ys => (keysL ys).map fun k => lookK kvs k
  | _, _ => none
theorem Rp.key {B : Hp} {x : U} {v : V} {k : Key} (r : Rp B x v) (h : x.key = some k) : v = kV k := by
  cases r with
  | int i => cases h; rfl
  | str i => cases h; rfl
  | _ => cases h
theorem Rps.keys {B : Hp} : ∀ {xs : List U} {vs : List V} {k : List Key}, Rps B xs vs → keysL xs = some k → vs = k.map kV
  | _, _, _, .nil, h => by cases h; rfl
  | _, _, _, .cons r t, h => by
    obtain ⟨a, ea, h⟩ := bind_some h
    obtain ⟨c, ec, h⟩ := map_some h
    subst h
    rw [List.map_cons, r.key ea, t.keys ec]
theorem Rpk.look {B : Hp} (k : Key) : ∀ {xs : List (Key × U)} {vs : List (Key × V)}, Rpk B xs vs → (∀ x, lookK xs k = some x → ∃ v, valV vs k = some v ∧ Rp B x v) ∧ (lookK xs k = none → valV vs k = none)
  | _, _, .nil => ⟨fun x h => (by cases h), fun _ => rfl⟩
  | _, _, @Rpk.cons _ _ k' x v xs vs r t => by
    obtain ⟨i1, i2⟩ := Rpk.look k t
    by_cases e : k' = k
    · subst e
      have e1 : lookK ((k', x) :: xs) k' = some x := by simp [lookK]
      have e2 : valV ((k', v) :: vs) k' = some v := by simp [valV]
      rw [e1, e2]
      exact ⟨fun y h => by cases h; exact ⟨v, rfl, r⟩, fun h => by cases h⟩
    · have e1 : lookK ((k', x) :: xs) k = lookK xs k := by simp [lookK, e]
      have e2 : valV ((k', v) :: vs) k = valV vs k := by simp [valV, e]
      rw [e1, e2]
      exact ⟨i1, i2⟩
theorem Rpt.look {B : Hp} (k : List Key) : ∀ {xs : List (List Key × U)} {vs : List (List Key × V)}, Rpt B xs vs → (∀ x, lookK xs k = some x → ∃ v, valV vs k = some v ∧ Rp B x v) ∧ (lookK xs k = none → valV vs k = none)
  | _, _, .nil => ⟨fun x h => (by cases h), fun _ => rfl⟩
  | _, _, @Rpt.cons _ _ k' x v xs vs r t => by
    obtain ⟨i1, i2⟩ := Rpt.look k t
    by_cases e : k' = k
    · subst e
      have e1 : lookK ((k', x) :: xs) k' = some x := by simp [lookK]
      have e2 : valV ((k', v) :: vs) k' = some v := by simp [valV]
      rw [e1, e2]
      exact ⟨fun y h => by cases h; exact ⟨v, rfl, r⟩, fun h => by cases h⟩
    · have e1 : lookK ((k', x) :: xs) k = lookK xs k := by simp [lookK, e]
      have e2 : valV ((k', v) :: vs) k = valV vs k := by simp [valV, e]
      rw [e1, e2]
      exact ⟨i1, i2⟩
end Dn
set_option Elab.async false
set_option linter.all false
set_option maxRecDepth 100000
set_option maxHeartbeats 2000000
namespace Dn
open PySem L2
variable [CTab]
theorem CallR.or {X : Cx} {f : Value} {r r' : List V → Hp → VK → Prop} (h : CallR X f r) (h' : CallR X f r') : CallR X f (fun xs H Q => r xs H Q ∨ r' xs H Q) := by
  intro pins s σ H xs us Q I rx q
  rcases q with q | q
  · exact h pins s σ H xs us Q I rx q
  · exact h' pins s σ H xs us Q I rx q
/-! ### a dict asked -/
theorem dget_of {x y : U} {v w : V} {B H : Hp} {o : Option U} (h : dgetO x y = some o) (s : Same B H) (rx : Rp B x v) (ry : Rp B y w) :
    ∃ a r, v = .ref a ∧ DGet H a w r ∧ r.isSome = o.isSome ∧ ∀ z, o = some z → ∃ u, r = some u ∧ Rp B z u := by
  cases rx with
  | @dic a kvs es ob e r =>
    have h : y.key.map (fun k => lookK kvs k) = some o := by cases y <;> exact h
    obtain ⟨k, ek, h⟩ := map_some h
    obtain ⟨i1, i2⟩ := r.look k
    refine ⟨a, valV es k, rfl, .inl ⟨es, k, .inr ⟨ob, s _ _ e⟩, ry.key ek, rfl⟩, ?_, fun z ez => ?_⟩
    · cases eo : o with
      | none => rw [i2 (by rw [h, eo])]; rfl
      | some z => obtain ⟨u, e1, _⟩ := i1 z (by rw [h, eo]); rw [e1]; rfl
    · obtain ⟨u, e1, e2⟩ := i1 z (by rw [h, ez])
      exact ⟨u, e1, e2⟩
  | @dit a kvs es ob e r =>
    cases ry with
    | @tup b ys ws e' r' =>
      obtain ⟨k, ek, h⟩ := map_some h
      obtain ⟨i1, i2⟩ := r.look k
      have hk := r'.keys ek
      refine ⟨a, valV es k, rfl, .inr ⟨es, k, b, .inr ⟨ob, s _ _ e⟩, rfl, by rw [← hk]; exact s _ _ e', rfl⟩, ?_, fun z ez => ?_⟩
      · cases eo : o with
        | none => rw [i2 (by rw [h, eo])]; rfl
        | some z => obtain ⟨u, e1, _⟩ := i1 z (by rw [h, eo]); rw [e1]; rfl
      · obtain ⟨u, e1, e2⟩ := i1 z (by rw [h, ez])
        exact ⟨u, e1, e2⟩
    | _ => cases h
  | _ => cases h
/-! ### in -/
def U.sign : U → Option Nat
  | .str s => match s.cps.toList with
    | [c] => some c
    | _ => none
  | _ => none
def inB : U → U → Option Bool
  | x, .lst xs => inO dep x xs
  | x, .tup xs => inO dep x xs
  | x, .tpd xs => inO dep x xs
  | x, .frl xs => inO dep x xs
  | x, .dic kvs => (dgetO (.dic kvs) x).map Option.isSome
  | x, .dit kvs => (dgetO (.dit kvs) x).map Option.isSome
  | x, .str z => x.sign.map fun c => decide (c ∈ z.cps.toList)
  | _, _ => none
def rDIn (neg : Bool) : R2 := fun x y H Q => ∃ a o, y = .ref a ∧ DGet H a x o ∧ Q (.bl (if neg then !o.isSome else o.isSome)) H
def rSIn (neg : Bool) : R2 := fun x y H Q => ∃ (c : Nat) (z : Str), x = .str ⟨#[c]⟩ ∧ y = .str z ∧ Q (.bl (if neg then !decide (c ∈ z.cps.toList) else decide (c ∈ z.cps.toList))) H
def rInA (neg : Bool) : R2 := fun x y H Q => rInU neg x y H Q ∨ rDIn neg x y H Q ∨ rSIn neg x y H Q
section
variable {X : Cx}
theorem op_dIn (hu : X.A.units + 1 < cLine) : OpR X (compareOp .In) (rDIn false) := by
  intro pins s σ H x y v u Q I rx ry h
  obtain ⟨a, o, rfl, g, q⟩ := h
  cases ry
  exact d_in hu I g rx fun s3 I3 => ⟨.bl o.isSome, H, I3, rfl, q⟩
theorem op_dNotIn (hu : X.A.units + 1 < cLine) : OpR X (compareOp .NotIn) (rDIn true) := by
  intro pins s σ H x y v u Q I rx ry h
  obtain ⟨a, o, rfl, g, q⟩ := h
  cases ry
  exact d_notIn hu I g rx fun s3 I3 => ⟨.bl (!o.isSome), H, I3, rfl, q⟩
theorem op_inA (hu : X.A.units + 64 < cLine) : OpR X (compareOp .In) (rInA false) := (op_inU hu).or ((op_dIn (by omega)).or op_in_sign)
theorem op_notInA (hu : X.A.units + 64 < cLine) : OpR X (compareOp .NotIn) (rInA true) := (op_notInU hu).or ((op_dNotIn (by omega)).or op_notIn_sign)
end
theorem inA_of {neg : Bool} {x y : U} {b : Bool} (e : inB x y = some b) {v w : V} {B H : Hp} (s : Same B H) (rx : Rp B x v) (ry : Rp B y w) {Q : VK} (q : Q (.bl (if neg then !b else b)) H) : rInA neg v w H Q := by
  cases ry with
  | lst h r =>
    exact .inl ⟨x, _, _, b, rx.in s, (Rp.lst h r).in s, rfl, e, q⟩
  | tup h r =>
    exact .inl ⟨x, _, _, b, rx.in s, (Rp.tup h r).in s, rfl, e, q⟩
  | tpd h hd r =>
    exact .inl ⟨x, _, _, b, rx.in s, (Rp.tpd h hd r).in s, rfl, e, q⟩
  | frl h r =>
    exact .inl ⟨x, _, _, b, rx.in s, (Rp.frl h r).in s, rfl, e, q⟩
  | @dic a kvs es ob h r =>
    obtain ⟨o, eo, e⟩ := map_some e
    obtain ⟨a, r', ea, g, h1, _⟩ := dget_of eo s (.dic h r) rx
    subst e
    rw [← h1] at q
    exact .inr (.inl ⟨a, r', ea, g, q⟩)
  | @dit a kvs es ob h r =>
    obtain ⟨o, eo, e⟩ := map_some e
    obtain ⟨a, r', ea, g, h1, _⟩ := dget_of eo s (.dit h r) rx
    subst e
    rw [← h1] at q
    exact .inr (.inl ⟨a, r', ea, g, q⟩)
  | str z =>
    obtain ⟨c, ec, e⟩ := map_some e
    subst e
    cases rx with
    | str t =>
      have ec : (match t.cps.toList with | [c] => some c | _ => none) = some c := ec
      split at ec
      · rename_i c' hc
        cases ec
        have e1 : t = ⟨#[c]⟩ := by
          cases t with
          | mk cps =>
            have : cps = #[c] := by
              apply Array.ext'
              simpa using hc
            rw [this]
        subst e1
        exact .inr (.inr ⟨c, z, rfl, rfl, q⟩)
      · cases ec
    | _ => cases ec
  | _ => cases e
def inV2 (x y : U) : Option U := (inB x y).map U.bl
def notInV2 (x y : U) : Option U := (inB x y).map fun b => U.bl (!b)
theorem rv_in : RV (rInA false) inV2 := fun x y z e v w B H s rx ry Q q => by
  obtain ⟨b, eb, e⟩ := map_some e
  subst e
  exact inA_of eb s rx ry (q _ B H (Go.refl s) (.bl _))
theorem rv_notIn : RV (rInA true) notInV2 := fun x y z e v w B H s rx ry Q q => by
  obtain ⟨b, eb, e⟩ := map_some e
  subst e
  exact inA_of eb s rx ry (q _ B H (Go.refl s) (.bl _))
/-! ### subscripts -/
def U.items : U → Option (List U)
  | .lst xs => some xs
  | .tup xs => some xs
  | .frl xs => some xs
  | _ => none
def U.tupQ : U → Bool
  | .tup _ => true
  | _ => false
/-- what is walked and read by place -/
theorem items_of {K : PySem.W.Frag} {x : U} {xs : List U} {v : V} {B H : Hp} (h : x.items = some xs) (s : Same B H) (r : Rp B x v) : ∃ a vs, v = .ref a ∧ Rps B xs vs ∧ ((SqL K H a vs ∧ x.tupQ = false) ∨ (SqT K H a vs ∧ x.tupQ = true)) := by
  cases r with
  | @lst a _ vs e r => cases h; exact ⟨a, vs, rfl, r, .inl ⟨SqL.of (s _ _ e), rfl⟩⟩
  | @tup a _ vs e r => cases h; exact ⟨a, vs, rfl, r, .inr ⟨SqT.of (s _ _ e), rfl⟩⟩
  | @frl a _ vs o e r => cases h; exact ⟨a, vs, rfl, r, .inl ⟨.inl (.inr ⟨o, s _ _ e⟩), rfl⟩⟩
  | _ => cases h
def rIxD : R2 := fun x y H Q => ∃ a v, x = .ref a ∧ DGet H a y (some v) ∧ Q v H
def rIxA (K : PySem.W.Frag) : R2 := fun x y H Q => rIx K x y H Q ∨ rIxD x y H Q
section
variable {X : Cx}
theorem ix_dict (hu : X.A.units + 1 < cLine) : IxR X rIxD := by
  intro value slice pins s σ H x y v u Q I rx ry h hs
  obtain ⟨a, z, rfl, g, q⟩ := h
  cases rx
  exact PyProof.Rows.tail_any (dict_typeIs I g) PySem.F.slot_dict_getitem.lookup (d_getItem hu I g ry fun w' s3 I3 rw' => ⟨z, H, I3, rw', q⟩) hs
theorem ix_any (hu : X.A.units + 64 < cLine) : IxR X (rIxA X.K) := ix_seq.or (ix_dict (by omega))
end
def getV : U → U → Option U
  | .lst xs, .int i => atI xs i
  | .tup xs, .int i => atI xs i
  | .tpd xs, .int i => atI xs i
  | .frl xs, .int i => atI xs i
  | .str z, .int i => if z.length ≤ lim then (atI z.cps.toList i).map fun c => .str ⟨#[c]⟩ else none
  | .dic kvs, y => (dgetO (.dic kvs) y).bind id
  | .dit kvs, y => (dgetO (.dit kvs) y).bind id
  | _, _ => none
theorem Rps.atI {B : Hp} {xs : List U} {vs : List V} (r : Rps B xs vs) {i : Int} {x : U} (h : L2.atI xs i = some x) : ∃ v, L2.atI vs i = some v ∧ Rp B x v := by
  unfold L2.atI at h ⊢
  rw [r.length]
  obtain ⟨j, ej, h⟩ := bind_some h
  obtain ⟨v, ev, rv⟩ := r.get h
  exact ⟨v, by rw [ej]; exact ev, rv⟩
theorem atI_map {α β : Type} {f : α → β} {xs : List α} {i : Int} {x : α} (h : atI xs i = some x) : atI (xs.map f) i = some (f x) := by
  unfold atI at h ⊢
  rw [List.length_map]
  obtain ⟨j, ej, h⟩ := bind_some h
  rw [ej]
  show (xs.map f)[j]? = _
  rw [List.getElem?_map, h]
  rfl
theorem rv_get {K : PySem.W.Frag} : RV (rIxA K) getV := fun x y z e v w B H s rx ry Q q => by
  cases rx with
  | @lst a xs vs h r =>
    cases ry with
    | int i =>
      obtain ⟨u, eu, ru⟩ := r.atI e
      exact .inl (.inl ⟨a, vs, i, u, rfl, rfl, SqL.of (s _ _ h), eu, q _ B H (Go.refl s) ru⟩)
    | _ => cases e
  | @tup a xs vs h r =>
    cases ry with
    | int i =>
      obtain ⟨u, eu, ru⟩ := r.atI e
      exact .inl (.inr (.inl ⟨a, vs, i, u, rfl, rfl, SqT.of (s _ _ h), eu, q _ B H (Go.refl s) ru⟩))
    | _ => cases e
  | @frl a xs vs o h r =>
    cases ry with
    | int i =>
      obtain ⟨u, eu, ru⟩ := r.atI e
      exact .inl (.inl ⟨a, vs, i, u, rfl, rfl, .inl (.inr ⟨o, s _ _ h⟩), eu, q _ B H (Go.refl s) ru⟩)
    | _ => cases e
  | @tpd a xs vs o h hd r =>
    cases ry with
    | int i =>
      obtain ⟨u, eu, ru⟩ := r.atI e
      exact .inl (.inr (.inl ⟨a, vs, i, u, rfl, rfl, .inl (.inr ⟨o, s _ _ h⟩), eu, q _ B H (Go.refl s) ru⟩))
    | _ => cases e
  | str t =>
    cases ry with
    | int i =>
      have e : (if t.length ≤ lim then (atI t.cps.toList i).map (fun c => U.str ⟨#[c]⟩) else none) = some z := e
      split at e
      · rename_i hl
        obtain ⟨c, ec, e⟩ := map_some e
        subst e
        exact .inl (.inr (.inr ⟨t, i, c, rfl, rfl, lim_size hl, ec, q _ B H (Go.refl s) (.str _)⟩))
      · cases e
    | _ => cases e
  | @dic a kvs es ob h r =>
    have e : (dgetO (.dic kvs) y).bind id = some z := by cases y <;> exact e
    obtain ⟨o, eo, e⟩ := bind_some e
    obtain ⟨a, r', ea, g, _, h2⟩ := dget_of eo s (.dic h r) ry
    obtain ⟨u, eu, ru⟩ := h2 z e
    exact .inr ⟨a, u, ea, by rw [← eu]; exact g, q _ B H (Go.refl s) ru⟩
  | @dit a kvs es ob h r =>
    have e : (dgetO (.dit kvs) y).bind id = some z := by cases y <;> exact e
    obtain ⟨o, eo, e⟩ := bind_some e
    obtain ⟨a, r', ea, g, _, h2⟩ := dget_of eo s (.dit h r) ry
    obtain ⟨u, eu, ru⟩ := h2 z e
    exact .inr ⟨a, u, ea, by rw [← eu]; exact g, q _ B H (Go.refl s) ru⟩
  | _ => cases e
/-! ### slices -/
def cutU (xs : List U) (lo hi : Option Int) : List U := (xs.drop (HT.sIx xs.length 0 lo)).take (HT.sIx xs.length xs.length hi - HT.sIx xs.length 0 lo)
theorem Rps.cut {B : Hp} {xs : List U} {vs : List V} (r : Rps B xs vs) (lo hi : Option Int) : Rps B (cutU xs lo hi) (cutV vs lo hi) := by
  unfold cutU cutV
  rw [r.length]
  exact (r.drop _).take _
def rSlU (K : PySem.W.Frag) : V → Option Int → Option Int → Hp → VK → Prop := fun x lo hi H Q => rSlL K x lo hi H Q ∨ rSlA K x lo hi H Q ∨ rSlS x lo hi H Q
theorem sl_any {X : Cx} : SlR X (rSlU X.K) := sl_list.or (sl_tupA.or sl_str)
def sliceV : U → Option Int → Option Int → Option U
  | .lst xs, lo, hi => some (.lst (cutU xs lo hi))
  | .frl xs, lo, hi => some (.lst (cutU xs lo hi))
  | .tup xs, lo, hi => some (.tup (cutU xs lo hi))
  | .str z, lo, hi => if z.length ≤ lim then some (.str (cutS z lo hi)) else none
  | _, _, _ => none
def U.asI : U → Option Int
  | .int i => some i
  | _ => none
def EvP (tp : TO) (σ : St) (B H : Hp) (o : Option (Option Int)) : Prop :=
  ∀ z, o = some z → ∀ B1 H1, At B B1 H1 → ∀ Q : Option Int → Hp → Prop, (∀ B2 H2, Go B1 H1 B2 H2 → Q z H2) → tp σ H1 Q
theorem cutU_whole {xs : List U} {lo hi : Option Int} (h : HT.sIx xs.length 0 lo = 0 ∧ HT.sIx xs.length xs.length hi = xs.length) : cutU xs lo hi = xs := by
  unfold cutU
  rw [h.1, h.2]
  simp
section
variable {σ : St} {B H : Hp} {te : TE} {tl th : TO} {oa : Option U} {ol oh : Option (Option Int)} {K : PySem.W.Frag}
theorem ep_no : EvP tNoPart σ B H (some none) := fun z e B1 H1 g Q q => by cases e; exact q B1 H1 (Go.refl g.bh)
theorem ep_of (h : EvO te σ B H oa) : EvP (tPart te) σ B H ((oa.bind U.asI).map some) := fun z e B1 H1 g Q q => by
  obtain ⟨i, ei, e⟩ := map_some e
  obtain ⟨x, ex, ei⟩ := bind_some ei
  subst e
  cases x <;> cases ei
  exact h _ ex B1 H1 g _ fun v B2 H2 g2 r => by cases r; exact ⟨_, rfl, q B2 H2 g2⟩
theorem eo_slice (h : EvO te σ B H oa) (hl : EvP tl σ B H ol) (hh : EvP th σ B H oh) : EvO (tSl (rSlU K) te tl th) σ B H (oa.bind fun x => ol.bind fun l => oh.bind fun u => sliceV x l u) := fun z e B1 H1 g Q q => by
  obtain ⟨x, ex, e⟩ := bind_some e
  obtain ⟨lo, el, e⟩ := bind_some e
  obtain ⟨hi, eh, e⟩ := bind_some e
  refine h x ex B1 H1 g _ fun v B2 H2 g2 r2 => hl lo el B2 H2 (g.trans g2) _ fun B3 H3 g3 => hh hi eh B3 H3 ((g.trans g2).trans g3) _ fun B4 H4 g4 => ?_
  have g24 := g3.trans g4
  have r := r2.up g24
  have gg := g2.trans g24
  have s := g4.bh
  cases r with
  | @lst a xs vs e1 r1 =>
    cases e
    exact .inl ⟨a, vs, rfl, SqL.of (s _ _ e1), fun p hp => q _ _ _ (gg.trans (Go.new s hp)) (.lst upd_same ((r1.cut lo hi).new s hp))⟩
  | @frl a xs vs o e1 r1 =>
    cases e
    exact .inl ⟨a, vs, rfl, .inl (.inr ⟨o, s _ _ e1⟩), fun p hp => q _ _ _ (gg.trans (Go.new s hp)) (.lst upd_same ((r1.cut lo hi).new s hp))⟩
  | @tup a xs vs e1 r1 =>
    cases e
    refine .inr (.inl ⟨a, vs, rfl, SqT.of (s _ _ e1), fun hw => ?_, fun _ p hp => q _ _ _ (gg.trans (Go.new s hp)) (.tup upd_same ((r1.cut lo hi).new s hp))⟩)
    rw [r1.length] at hw
    rw [cutU_whole hw] at q
    exact q _ B4 H4 gg (.tup e1 r1)
  | str t =>
    have e : (if t.length ≤ lim then some (U.str (cutS t lo hi)) else none) = some z := e
    split at e
    · rename_i hl
      cases e
      exact .inr (.inr ⟨t, rfl, lim_size hl, q _ B4 H4 gg (.str _)⟩)
    · cases e
  | _ => cases e
end
/-! ### len -/
def rLenR : List V → Hp → VK → Prop := fun xs H Q => (∃ a kvs, xs = [V.ref a] ∧ Rd H a (.dK kvs) ∧ Q (.int kvs.length) H)
theorem call_lenR {X : Cx} : CallR X (.builtin "len") rLenR := by
  intro pins s σ H xs us Q I r h
  obtain ⟨a, kvs, rfl, ha, q⟩ := h
  obtain ⟨u, rfl, ru⟩ := vals1 r
  cases ru
  exact d_len I ha fun t s' I' => ⟨.int kvs.length, H, I', ⟨t, rfl⟩, q⟩
def rLenA (K : PySem.W.Frag) : List V → Hp → VK → Prop := fun xs H Q => (∃ p ys, xs = [.ref p] ∧ (SqL K H p ys ∨ SqT K H p ys) ∧ Q (.int ys.length) H) ∨ (∃ z, xs = [.str z] ∧ z.length ≤ sizeLine ∧ Q (.int z.length) H) ∨ rLenR xs H Q
theorem call_lenA {X : Cx} : CallR X (.builtin "len") (rLenA X.K) := CallR.or call_len_seq (CallR.or call_len_str call_lenR)
def lenV : List U → Option U
  | [.lst xs] => some (.int xs.length)
  | [.tup xs] => some (.int xs.length)
  | [.tpd xs] => some (.int xs.length)
  | [.frl xs] => some (.int xs.length)
  | [.str z] => if z.length ≤ lim then some (.int z.length) else none
  | [.dic kvs] => some (.int kvs.length)
  | _ => none
theorem Rpk.length {B : Hp} : ∀ {xs : List (Key × U)} {vs : List (Key × V)}, Rpk B xs vs → vs.length = xs.length
  | _, _, .nil => rfl
  | _, _, .cons _ t => by rw [List.length_cons, List.length_cons, Rpk.length t]
theorem rc_one {f : List U → Option U} {r : List V → Hp → VK → Prop} (hn : ∀ xs z, f xs = some z → ∃ x, xs = [x])
    (h : ∀ x z, f [x] = some z → ∀ v B H, Same B H → Rp B x v → ∀ Q : VK, (∀ v2 B2 H2, Go B H B2 H2 → Rp B2 z v2 → Q v2 H2) → r [v] H Q) : RC r f := fun xs z e vs B H s rs Q q => by
  obtain ⟨x, rfl⟩ := hn xs z e
  cases rs with
  | cons r1 t => cases t; exact h x z e _ B H s r1 Q q
theorem rc_len {K : PySem.W.Frag} : RC (rLenA K) lenV := rc_one (fun xs z e => by
    match xs, e with
    | [x], _ => exact ⟨x, rfl⟩
    | [], e => cases e
    | x :: y :: r, e => cases x <;> cases e) fun x z e v B H s rx Q q => by
  cases rx with
  | @lst a xs vs h r => cases e; rw [← r.length] at q; exact .inl ⟨a, vs, rfl, .inl (SqL.of (s _ _ h)), q _ B H (Go.refl s) (.int _)⟩
  | @tup a xs vs h r => cases e; rw [← r.length] at q; exact .inl ⟨a, vs, rfl, .inr (SqT.of (s _ _ h)), q _ B H (Go.refl s) (.int _)⟩
  | @frl a xs vs o h r => cases e; rw [← r.length] at q; exact .inl ⟨a, vs, rfl, .inl (.inl (.inr ⟨o, s _ _ h⟩)), q _ B H (Go.refl s) (.int _)⟩
  | @tpd a xs vs o h hd r => cases e; rw [← r.length] at q; exact .inl ⟨a, vs, rfl, .inr (.inl (.inr ⟨o, s _ _ h⟩)), q _ B H (Go.refl s) (.int _)⟩
  | str t =>
    have e : (if t.length ≤ lim then some (U.int t.length) else none) = some z := e
    split at e
    · rename_i hl
      cases e
      exact .inr (.inl ⟨t, rfl, lim_size hl, q _ B H (Go.refl s) (.int _)⟩)
    · cases e
  | @dic a kvs es ob h r => cases e; rw [← r.length] at q; exact .inr (.inr ⟨a, es, rfl, .inr ⟨ob, s _ _ h⟩, q _ B H (Go.refl s) (.int _)⟩)
  | _ => cases e
/-! ### isinstance -/
def U.tyn : U → Option String
  | .non => some "NoneType"
  | .bl _ => some "bool"
  | .int _ => some "int"
  | .str _ => some "str"
  | .tup _ => some "tuple"
  | .lst _ => some "list"
  | .frl _ => some "list"
  | .dic _ => some "dict"
  | .dit _ => none
  | .tpd _ => none
  | .dib _ => none
  | .mt => none
  | .exc _ _ => none
  | .obj _ _ => none
theorem tyx_of {K : PySem.W.Frag} {x : U} {v : V} {B H : Hp} {T : String} (h : x.tyn = some T) (s : Same B H) (r : Rp B x v) : TyX K H v (.type T) := by
  cases r with
  | non => cases h; exact .base .non
  | bl b => cases h; exact .base (.bl b)
  | int b => cases h; exact .base (.int b)
  | str b => cases h; exact .base (.str b)
  | tup e _ => cases h; exact .base (.tup (s _ _ e))
  | lst e _ => cases h; exact .base (.lst (s _ _ e))
  | frl e r => cases h; exact .base (.frz (s _ _ e))
  | dic e _ =>
    cases h
    exact .fDict (s _ _ e)
  | dit e _ => cases h
  | tpd _ _ _ => cases h
  | dib _ _ _ => cases h
  | mt => cases h
  | exc0 _ => cases h
  | exc _ _ _ => cases h
  | obj _ _ _ => cases h
def isStrB : U → Option Bool
  | .str _ => some true
  | .dit _ => none
  | .tpd _ => none
  | .dib _ => none
  | .mt => none
  | .exc _ _ => none
  | .obj _ _ => none
  | _ => some false
def isIntB : U → Option Bool
  | .int _ => some true
  | .bl _ => some true
  | .dit _ => none
  | .tpd _ => none
  | .dib _ => none
  | .mt => none
  | .exc _ _ => none
  | .obj _ _ => none
  | _ => some false
def isBoolB : U → Option Bool
  | .bl _ => some true
  | .dit _ => none
  | .tpd _ => none
  | .dib _ => none
  | .mt => none
  | .exc _ _ => none
  | .obj _ _ => none
  | _ => some false
def isTupB : U → Option Bool
  | .tup _ => some true
  | .dit _ => none
  | .tpd _ => none
  | .dib _ => none
  | .mt => none
  | .exc _ _ => none
  | .obj _ _ => none
  | _ => some false
theorem isStr_kit {x : U} {b : Bool} (h : isStrB x = some b) : ∃ T, x.tyn = some T ∧ kitB T "str" = some b := by
  cases x <;> cases h <;> exact ⟨_, rfl, by decide +kernel⟩
theorem isInt_kit {x : U} {b : Bool} (h : isIntB x = some b) : ∃ T, x.tyn = some T ∧ kitB T "int" = some b := by
  cases x <;> cases h <;> exact ⟨_, rfl, by decide +kernel⟩
theorem isBool_kit {x : U} {b : Bool} (h : isBoolB x = some b) : ∃ T, x.tyn = some T ∧ kitB T "bool" = some b := by
  cases x <;> cases h <;> exact ⟨_, rfl, by decide +kernel⟩
theorem isTup_kit {x : U} {b : Bool} (h : isTupB x = some b) : ∃ T, x.tyn = some T ∧ kitB T "tuple" = some b := by
  cases x <;> cases h <;> exact ⟨_, rfl, by decide +kernel⟩
section
variable {σ : St} {B H : Hp} {te : TE} {oa : Option U} {K : PySem.W.Frag}
theorem eo_isi {T : String} {f : U → Option Bool} (hf : ∀ {x b}, f x = some b → ∃ S, x.tyn = some S ∧ kitB S T = some b) (h : EvO te σ B H oa) :
    EvO (tCB (rIsi K) (tCons te (tCons (tC (.ty T)) tNil))) σ B H (oa.bind fun x => (f x).map U.bl) := fun z e B1 H1 g Q q => by
  obtain ⟨x, ex, e⟩ := bind_some e
  obtain ⟨b, eb, e⟩ := map_some e
  subst e
  obtain ⟨S, e1, e2⟩ := hf eb
  exact h x ex B1 H1 g _ fun v B2 H2 g2 r => ⟨v, .ty T, .type S, .type T, b, rfl, .ty T, tyx_of e1 g2.bh r, kit_ty e2, q _ B2 H2 g2 (.bl b)⟩
theorem eo_isStr (h : EvO te σ B H oa) : EvO (tCB (rIsi K) (tCons te (tCons (tC (.ty "str")) tNil))) σ B H (oa.bind fun x => (isStrB x).map U.bl) := eo_isi isStr_kit h
theorem eo_isInt (h : EvO te σ B H oa) : EvO (tCB (rIsi K) (tCons te (tCons (tC (.ty "int")) tNil))) σ B H (oa.bind fun x => (isIntB x).map U.bl) := eo_isi isInt_kit h
theorem eo_isBool (h : EvO te σ B H oa) : EvO (tCB (rIsi K) (tCons te (tCons (tC (.ty "bool")) tNil))) σ B H (oa.bind fun x => (isBoolB x).map U.bl) := eo_isi isBool_kit h
theorem eo_isTup (h : EvO te σ B H oa) : EvO (tCB (rIsi K) (tCons te (tCons (tC (.ty "tuple")) tNil))) σ B H (oa.bind fun x => (isTupB x).map U.bl) := eo_isi isTup_kit h
end
/-! ### all, any, sum, list(), tuple(), abs, min, max, int() -/
def bools : List U → Option (List Bool)
  | [] => some []
  | .bl b :: xs => (bools xs).map fun r => b :: r
  | _ :: _ => none
def intsU : List U → Option (List Int)
  | [] => some []
  | .int b :: xs => (intsU xs).map fun r => b :: r
  | _ :: _ => none
theorem Rps.bools {B : Hp} : ∀ {xs : List U} {vs : List V} {bs : List Bool}, Rps B xs vs → Dn.bools xs = some bs → vs = bs.map V.bl
  | _, _, _, .nil, h => by cases h; rfl
  | _, _, _, .cons r t, h => by
    cases r with
    | bl b =>
      obtain ⟨c, ec, h⟩ := map_some h
      subst h
      rw [List.map_cons, t.bools ec]
    | _ => cases h
theorem Rps.intsOf {B : Hp} : ∀ {xs : List U} {vs : List V} {bs : List Int}, Rps B xs vs → intsU xs = some bs → vs = bs.map V.int
  | _, _, _, .nil, h => by cases h; rfl
  | _, _, _, .cons r t, h => by
    cases r with
    | int b =>
      obtain ⟨c, ec, h⟩ := map_some h
      subst h
      rw [List.map_cons, t.intsOf ec]
    | _ => cases h
/-- a call of one argument -/
def c1 (f : U → Option U) : List U → Option U
  | [x] => f x
  | _ => none
theorem c1_one {f : U → Option U} : ∀ xs z, c1 f xs = some z → ∃ x, xs = [x]
  | [x], _, _ => ⟨x, rfl⟩
  | [], _, e => by cases e
  | _ :: _ :: _, _, e => by cases e
def allV : U → Option U
  | .lst xs => (bools xs).map fun bs => .bl (bs.all id)
  | _ => none
def anyV : U → Option U
  | .lst xs => (bools xs).map fun bs => .bl (bs.any id)
  | _ => none
def sumV : U → Option U
  | .lst xs => (intsU xs).map fun bs => .int bs.sum
  | _ => none
theorem rc_all {K : PySem.W.Frag} : RC (rAll K) (c1 allV) := rc_one c1_one fun x z e v B H s rx Q q => by
  cases rx with
  | @lst a xs vs h r =>
    obtain ⟨bs, eb, e⟩ := map_some e
    subst e
    exact ⟨a, bs, rfl, by rw [← r.bools eb]; exact SqL.of (s _ _ h), q _ B H (Go.refl s) (.bl _)⟩
  | _ => cases e
theorem rc_any {K : PySem.W.Frag} : RC (rAny K) (c1 anyV) := rc_one c1_one fun x z e v B H s rx Q q => by
  cases rx with
  | @lst a xs vs h r =>
    obtain ⟨bs, eb, e⟩ := map_some e
    subst e
    exact ⟨a, bs, rfl, by rw [← r.bools eb]; exact SqL.of (s _ _ h), q _ B H (Go.refl s) (.bl _)⟩
  | _ => cases e
theorem rc_sum {K : PySem.W.Frag} : RC (rSum K) (c1 sumV) := rc_one c1_one fun x z e v B H s rx Q q => by
  cases rx with
  | @lst a xs vs h r =>
    obtain ⟨bs, eb, e⟩ := map_some e
    subst e
    exact ⟨a, bs, rfl, by rw [← r.intsOf eb]; exact SqL.of (s _ _ h), q _ B H (Go.refl s) (.int _)⟩
  | _ => cases e
def rListA (K : PySem.W.Frag) : List V → Hp → VK → Prop := fun xs H Q => (∃ p ys, xs = [.ref p] ∧ (SqL K H p ys ∨ SqT K H p ys) ∧ ∀ l, H l = none → Q (.ref l) (upd H l (.lst ys))) ∨ rListD xs H Q
theorem call_listA {X : Cx} (hc : X.calm = true) : CallR X (.type "list") (rListA X.K) := CallR.or call_list_of (call_list_dK hc)
def kU : Key → U
  | .inl i => .int i
  | .inr x => .str x
theorem rp_key {B : Hp} (k : Key) : Rp B (kU k) (kV k) := by
  cases k with
  | inl i => exact .int i
  | inr i => exact .str i
theorem Rpk.keys {B : Hp} : ∀ {xs : List (Key × U)} {vs : List (Key × V)}, Rpk B xs vs → Rps B (xs.map fun kv => kU kv.1) (vs.map fun kv => kV kv.1)
  | _, _, .nil => .nil
  | _, _, .cons _ t => .cons (rp_key _) (Rpk.keys t)
def listV : U → Option U
  | .lst xs => some (.lst xs)
  | .tup xs => some (.lst xs)
  | _ => none
def tupleV : U → Option U
  | .lst xs => some (.tup xs)
  | .tup xs => some (.tup xs)
  | _ => none
theorem rc_list {K : PySem.W.Frag} : RC (rListA K) (c1 listV) := rc_one c1_one fun x z e v B H s rx Q q => by
  cases rx with
  | @lst a xs vs h r => cases e; exact .inl ⟨a, vs, rfl, .inl (SqL.of (s _ _ h)), fun p hp => q _ _ _ (Go.new s hp) (.lst upd_same (r.new s hp))⟩
  | @tup a xs vs h r => cases e; exact .inl ⟨a, vs, rfl, .inr (SqT.of (s _ _ h)), fun p hp => q _ _ _ (Go.new s hp) (.lst upd_same (r.new s hp))⟩
  | _ => cases e
def rTupleA (K : PySem.W.Frag) : List V → Hp → VK → Prop := fun xs H Q => ∃ p ys, xs = [.ref p] ∧ ((SqL K H p ys ∧ ∀ l, H l = none → Q (.ref l) (upd H l (.tup ys))) ∨ (SqT K H p ys ∧ Q (.ref p) H))
theorem rc_tuple {K : PySem.W.Frag} : RC (rTupleA K) (c1 tupleV) := rc_one c1_one fun x z e v B H s rx Q q => by
  cases rx with
  | @lst a xs vs h r => cases e; exact ⟨a, vs, rfl, .inl ⟨SqL.of (s _ _ h), fun p hp => q _ _ _ (Go.new s hp) (.tup upd_same (r.new s hp))⟩⟩
  | @tup a xs vs h r => cases e; exact ⟨a, vs, rfl, .inr ⟨SqT.of (s _ _ h), q _ B H (Go.refl s) (.tup h r)⟩⟩
  | _ => cases e
def absU : U → Option U
  | .int i => some (.int (if i < 0 then -i else i))
  | _ => none
theorem rc_abs : RC (fun xs H Q => ∃ i, xs = [V.int i] ∧ Q (.int (if i < 0 then -i else i)) H) (c1 absU) := rc_one c1_one fun x z e v B H s rx Q q => by
  cases rx with
  | int i => cases e; exact ⟨i, rfl, q _ B H (Go.refl s) (.int _)⟩
  | _ => cases e
def intV : U → Option U
  | .int i => some (.int i)
  | .bl b => some (.int (if b then 1 else 0))
  | _ => none
theorem rc_int : RC (fun xs H Q => (∃ i, xs = [V.int i] ∧ Q (.int i) H) ∨ ∃ k, xs = [V.bl k] ∧ Q (.int (if k then 1 else 0)) H) (c1 intV) := rc_one c1_one fun x z e v B H s rx Q q => by
  cases rx with
  | int i => cases e; exact .inl ⟨i, rfl, q _ B H (Go.refl s) (.int _)⟩
  | bl b => cases e; exact .inr ⟨b, rfl, q _ B H (Go.refl s) (.int _)⟩
  | _ => cases e
/-- a call of two ints -/
def c2i (f : Int → Int → Option U) : List U → Option U
  | [.int i, .int j] => f i j
  | _ => none
theorem rc_two {f : Int → Int → Option U} {r : List V → Hp → VK → Prop}
    (h : ∀ i j z, f i j = some z → ∀ B H, Same B H → ∀ Q : VK, (∀ v2 B2 H2, Go B H B2 H2 → Rp B2 z v2 → Q v2 H2) → r [.int i, .int j] H Q) : RC r (c2i f) := fun xs z e vs B H s rs Q q => by
  unfold c2i at e
  split at e
  · rename_i i j
    cases rs with
    | cons r1 t =>
      cases t with
      | cons r2 t =>
        cases t
        cases r1
        cases r2
        exact h i j z e B H s Q q
  · cases e
def maxU : List U → Option U := c2i fun i j => some (.int (if j > i then j else i))
def minU : List U → Option U := c2i fun i j => some (.int (if j < i then j else i))
def divmodU : List U → Option U := c2i fun i j => if 0 < j ∧ j < 1073741824 then some (.tup [.int (i / j), .int (i % j)]) else none
theorem rc_max : RC (fun xs H Q => ∃ i j, xs = [V.int i, .int j] ∧ Q (.int (if j > i then j else i)) H) maxU := rc_two fun i j z e B H s Q q => by cases e; exact ⟨i, j, rfl, q _ B H (Go.refl s) (.int _)⟩
theorem rc_min : RC (fun xs H Q => ∃ i j, xs = [V.int i, .int j] ∧ Q (.int (if j < i then j else i)) H) minU := rc_two fun i j z e B H s Q q => by cases e; exact ⟨i, j, rfl, q _ B H (Go.refl s) (.int _)⟩
theorem rc_divmod : RC (fun xs H Q => ∃ i j, xs = [V.int i, .int j] ∧ CDiv i j ∧ ∀ p, H p = none → Q (.ref p) (upd H p (.tup [.int (i / j), .int (i % j)]))) divmodU := rc_two fun i j z e B H s Q q => by
  split at e
  · rename_i hj
    cases e
    exact ⟨i, j, rfl, hj, fun p hp => q _ _ _ (Go.new s hp) (.tup upd_same (.cons (.int _) (.cons (.int _) .nil)))⟩
  · cases e
end Dn
set_option Elab.async false
set_option linter.all false
set_option maxRecDepth 100000
set_option maxHeartbeats 2000000
namespace Dn
open PySem L2
variable [CTab]
/-! ### what is walked -/
structure WalkU (J : It) (xs : List U) (B2 : Hp) : Prop where
  goes : ∀ i H, i < xs.length → Same B2 H → J.go i H
  stops : ∀ H, Same B2 H → J.stop xs.length H
  yields : ∀ i H x H' B, i < xs.length → Same B2 B → Same B H → J.yld i H x H' → ∃ B' u, Go B H B' H' ∧ xs[i]? = some u ∧ Rp B' u x
def EvI (wi : TI) (σ : St) (B H : Hp) (o : Option (List U)) : Prop :=
  ∀ xs, o = some xs → ∀ B1 H1, At B B1 H1 → ∀ R : It → Hp → Prop, (∀ J B2 H2, Go B1 H1 B2 H2 → WalkU J xs B2 → R J H2) → wi σ H1 R
/-- a walk that leaves the heap as it is -/
theorem WalkU.of {J : It} {n : Nat} {G : Hp → Prop} {vs : List V} {xs : List U} {B2 : Hp} (w : Walk J n G (YAt vs)) (hn : n = xs.length) (hG : ∀ H, Same B2 H → G H) (r : Rps B2 xs vs) : WalkU J xs B2 := by
  subst hn
  refine ⟨fun i H hi s => w.goes i H hi (hG H s), fun H s => w.stops H (hG H s), fun i H x H' B hi s1 s2 y => ?_⟩
  obtain ⟨e1, e2⟩ := w.yields i H x H' hi (hG H (s1.trans s2)) y
  subst e1
  obtain ⟨u, eu, ru⟩ := r.back e2
  exact ⟨B, u, Go.refl s2, eu, ru.kp (Kp.of s1)⟩
/-- a list or a tuple -/
def iSeq (K : PySem.W.Frag) (tl : TE) : TI := fun σ H R => tl σ H fun x H1 => (∃ a, x = .ref a ∧ (∃ xs, SqL K H1 a xs) ∧ R (Itl K a) H1) ∨ (∃ a, x = .ref a ∧ (∃ xs, SqT K H1 a xs) ∧ R (Itt K a) H1)
theorem pi_seq {X : Cx} {tg l : Expr} {tl : TE} (hl : PE X l tl) : PI X tg l (iSeq X.K tl) := by
  refine ⟨fun pins s σ H R I h => ?_⟩
  refine thn (hl.run pins s σ H _ I h) fun v s1 ⟨x, H1, I1, r1, q1⟩ => ?_
  rcases q1 with ⟨a, e, ⟨xs, hq⟩, q⟩ | ⟨a, e, ⟨xs, hq⟩, q⟩
  · subst e
    cases r1
    obtain ⟨its, rv, p, hz⟩ := I1.list hq
    refine wpAny_pyIter_list p.isList ?_
    refine ⟨s1.heap.objs.size, [s1.heap.objs.size], _, _, H1, rfl, I1.kept (t' := s1.toks) fun b o e => Heap.get?_push_of_some _ e, turn_list a _, ⟨_, Heap.get?_push_size _ rfl, rfl, rfl⟩, fun b hb => ?_, q⟩
    have e : b = s1.heap.objs.size := by simpa using hb
    subst e
    exact I1.fpOk (Nat.le_refl _) (I1.hok.fresh (Nat.le_refl _))
  · subst e
    cases r1
    obtain ⟨its, rv, p, hz⟩ := I1.tuple hq
    refine wpAny_pyIter_tuple (show s1.heap.IsTuple a its.toArray from p) ?_
    refine ⟨s1.heap.objs.size, [s1.heap.objs.size], _, _, H1, rfl, I1.kept (t' := s1.toks) fun b o e => Heap.get?_push_of_some _ e, turn_tuple a _, ⟨_, Heap.get?_push_size _ rfl, rfl, rfl⟩, fun b hb => ?_, q⟩
    have e : b = s1.heap.objs.size := by simpa using hb
    subst e
    exact I1.fpOk (Nat.le_refl _) (I1.hok.fresh (Nat.le_refl _))
section
variable {σ : St} {B H : Hp} {te tl : TE} {oa : Option U} {K : PySem.W.Frag}
theorem ei_seq (h : EvO tl σ B H oa) : EvI (iSeq K tl) σ B H (oa.bind U.items) := fun xs e B1 H1 g R q => by
  obtain ⟨x, ex, e⟩ := bind_some e
  refine h x ex B1 H1 g _ fun v B2 H2 g2 r => ?_
  cases r with
  | @lst a ys vs h r =>
    cases e
    exact .inl ⟨a, rfl, ⟨vs, SqL.of (g2.bh _ _ h)⟩, q _ B2 H2 g2 (WalkU.of (walk_list (K := K) (a := a)) r.length (fun H s => SqL.of (s _ _ h)) r)⟩
  | @tup a ys vs h r =>
    cases e
    exact .inr ⟨a, rfl, ⟨vs, SqT.of (g2.bh _ _ h)⟩, q _ B2 H2 g2 (WalkU.of (walk_tup (K := K) (a := a)) r.length (fun H s => SqT.of (s _ _ h)) r)⟩
  | @frl a ys vs o h r =>
    cases e
    exact .inl ⟨a, rfl, ⟨_, .inl (.inr ⟨o, g2.bh _ _ h⟩)⟩, q _ B2 H2 g2 (WalkU.of (walk_list (K := K) (a := a)) r.length (fun H s => .inl (.inr ⟨o, s _ _ h⟩)) r)⟩
  | _ => cases e
/-- range -/
def rangeU (lo : Int) (n : Nat) : List U := (List.range n).map fun i => U.int (lo + (i : Nat))
theorem walk_rangeU {lo : Int} {n : Nat} {B2 : Hp} : WalkU (Itr lo n) (rangeU lo n) B2 := by
  have hl : (rangeU lo n).length = n := by simp [rangeU]
  refine ⟨fun i H hi _ => (walk_range (lo := lo) (n := n)).goes i H (by omega) trivial, fun H _ => by rw [hl]; exact (walk_range (lo := lo) (n := n)).stops H trivial, fun i H x H' B hi s1 s2 y => ?_⟩
  obtain ⟨e1, e2⟩ := (walk_range (lo := lo) (n := n)).yields i H x H' (by omega) trivial y
  subst e1 e2
  exact ⟨B, .int (lo + (i : Nat)), Go.refl s2, by simp [rangeU, show i < n by omega], .int _⟩
def rng1 : List U → Option (List U)
  | [.int j] => if j ≤ 100000 ∧ -100000 ≤ j then some (rangeU 0 j.toNat) else none
  | _ => none
def rng2 : List U → Option (List U)
  | [.int i, .int j] => if j ≤ 100000 ∧ -100000 ≤ j ∧ i ≤ 100000 ∧ -100000 ≤ i then some (rangeU i (j - i).toNat) else none
  | _ => none
theorem ei_rng1 {ta : TA} {ol : Option (List U)} (h : EvA ta σ B H ol) : EvI (iRng1 ta) σ B H (ol.bind rng1) := fun xs e B1 H1 g R q => by
  obtain ⟨x, ex, e⟩ := bind_some e
  unfold rng1 at e
  split at e
  · rename_i j
    split at e
    · rename_i hj
      cases e
      refine h _ ex B1 H1 g _ fun v B2 H2 g2 r => ?_
      cases r with
      | cons r1 t =>
        cases t
        cases r1
        exact ⟨j, rfl, by omega, by omega, q _ B2 H2 g2 walk_rangeU⟩
    · cases e
  · cases e
theorem ei_rng2 {ta : TA} {ol : Option (List U)} (h : EvA ta σ B H ol) : EvI (iRng2 ta) σ B H (ol.bind rng2) := fun xs e B1 H1 g R q => by
  obtain ⟨x, ex, e⟩ := bind_some e
  unfold rng2 at e
  split at e
  · rename_i i j
    split at e
    · rename_i hj
      cases e
      refine h _ ex B1 H1 g _ fun v B2 H2 g2 r => ?_
      cases r with
      | cons r1 t =>
        cases t with
        | cons r2 t =>
          cases t
          cases r1
          cases r2
          exact ⟨i, j, rfl, ⟨by omega, by omega, by omega, by omega⟩, q _ B2 H2 g2 walk_rangeU⟩
    · cases e
  · cases e
/-- a text, sign by sign -/
def signsU (z : Str) : List U := z.cps.toList.map fun c => U.str ⟨#[c]⟩
def U.signs : U → Option (List U)
  | .str z => some (signsU z)
  | _ => none
theorem ei_str (h : EvO te σ B H oa) : EvI (iStr te) σ B H (oa.bind U.signs) := fun xs e B1 H1 g R q => by
  obtain ⟨x, ex, e⟩ := bind_some e
  refine h x ex B1 H1 g _ fun v B2 H2 g2 r => ?_
  cases r with
  | str z =>
    cases e
    refine ⟨z, rfl, q _ B2 H2 g2 ?_⟩
    have hl : (signsU z).length = z.cps.size := by simp [signsU]
    refine ⟨fun i H hi _ => (walk_str (z := z)).goes i H (by omega) trivial, fun H _ => by rw [hl]; exact (walk_str (z := z)).stops H trivial, fun i H x H' B hi s1 s2 y => ?_⟩
    obtain ⟨e1, c, e2, e3⟩ := (walk_str (z := z)).yields i H x H' (by omega) trivial y
    subst e1 e3
    exact ⟨B, .str ⟨#[c]⟩, Go.refl s2, by simp [signsU, e2], .str _⟩
  | _ => cases e
/-! ### [e for x in xs if p] -/
def lcL (p : U → Option Bool) (f : U → Option U) : List U → Option (List U)
  | [] => some []
  | x :: r => (p x).bind fun b => if b = true then (f x).bind fun y => (lcL p f r).map fun z => y :: z else lcL p f r
def lcO (p : U → Option Bool) (f : U → Option U) (xs : List U) : Option U := if xs.length ≤ lim then (lcL p f xs).map U.lst else none
def yesO : U → Option Bool := fun _ => some true
theorem et_yes {σ : St} {B H : Hp} : EvT tYes σ B H (some true) := fun z e B1 H1 g Q q => by cases e; exact q B1 H1 (Go.refl g.bh)
theorem drop_at {xs : List U} {i : Nat} {u : U} (h : xs[i]? = some u) : xs.drop i = u :: xs.drop (i + 1) := by
  obtain ⟨hi, e⟩ := List.getElem?_eq_some_iff.mp h
  rw [List.drop_eq_getElem_cons hi, e]
/-- the general form: g binds, σ2 is what it leaves -/
theorem eo_lcG {wi : TI} {g : TG} {tt : TT} {te : TE} {vs : List Nat} {oxs : Option (List U)} {p : U → Option Bool} {f : U → Option U} (hi : EvI wi σ B H oxs)
    (hg : ∀ u v B1 H1 (Q : St → Hp → Prop) b, At B B1 H1 → Rp B1 u v → p u = some b → (∀ σ2, wipe σ2 vs = wipe σ vs → EvT tt σ2 B1 H1 (some b) → (b = true → EvO te σ2 B1 H1 (f u)) → Q σ2 H1) → g v (wipe σ vs) H1 Q) :
    EvO (tLc wi g tt te vs) σ B H (oxs.bind fun xs => lcO p f xs) := fun z e B0 H0 g0 Q q => by
  obtain ⟨xs, exs, e⟩ := bind_some e
  unfold lcO at e
  split at e
  · rename_i hlim
    obtain ⟨zs, ezs, e⟩ := map_some e
    subst e
    refine hi xs exs B0 H0 g0 _ fun J B2 H2 g2 w => fun D hD => ?_
    have w' : Walk J xs.length (fun H' => Same B2 H') (J.yld) := ⟨w.goes, w.stops, fun _ _ _ _ _ _ y => y⟩
    refine lc_it w' (fun i H' => ∃ Bi acc ys, Go B2 H2 Bi H' ∧ Bi D = none ∧ H' D = some (.lst acc) ∧ Rps Bi ys acc ∧ (lcL p f (xs.drop i)).map (fun r => ys ++ r) = some zs ∧ ys.length ≤ i) ?_ ?_ ?_ ?_
    · exact ⟨B2, [], [], Go.own g2.bh hD, g2.bh.free hD, upd_same, .nil, by simp [ezs], Nat.le_refl _⟩
    · rintro i H' _ ⟨Bi, _, _, gi, _⟩
      exact gi.b.trans gi.bh
    · rintro i x H' H'' hin ⟨Bi, acc, ys, gi, hBD, hHD, ra, hr, hy⟩ y
      obtain ⟨B', u, g', eu, ru⟩ := w.yields i H' x H'' Bi hin gi.b gi.bh y
      rw [drop_at eu] at hr
      obtain ⟨rr, err, hr⟩ := map_some hr
      obtain ⟨b, eb, err⟩ := bind_some err
      have gg : At B B' H'' := (g0.trans g2).trans (gi.trans g')
      refine hg u x B' H'' _ b gg ru eb fun σ2 hw ht hte => ⟨hw, ?_⟩
      refine ht b rfl B' H'' (Go.refl gg.bh) _ fun B3 H3 g3 => ?_
      have hB'D : B' D = none := g'.noB hBD hHD
      have hH''D : H'' D = some (.lst acc) := g'.h _ _ hHD
      cases b with
      | true =>
        obtain ⟨yv, ey, err⟩ := bind_some (show (f u).bind _ = _ from err)
        obtain ⟨r2, er2, err⟩ := map_some err
        subst err
        refine hte rfl yv ey B3 H3 g3 _ fun v4 B4 H4 g4 r4 => ?_
        have g34 := g3.trans g4
        have hB4 : B4 D = none := g34.noB hB'D hH''D
        have hH4 : H4 D = some (.lst acc) := g34.h _ _ hH''D
        refine ⟨acc, hH4, lim_lt (by have := ra.length; omega), B4, acc ++ [v4], ys ++ [yv], ((gi.trans g').trans g34).mut hD hB4, hB4, upd_same, (((ra.up g').up g34).append (.one r4)), ?_, ?_⟩
        · rw [er2]
          simp only [Option.map_some]
          rw [← hr]
          simp
        · rw [List.length_append, List.length_singleton]; omega
      | false =>
        have hB3 : B3 D = none := g3.noB hB'D hH''D
        have hH3 : H3 D = some (.lst acc) := g3.h _ _ hH''D
        refine ⟨B3, acc, ys, (gi.trans g').trans g3, hB3, hH3, (ra.up g').up g3, ?_, by omega⟩
        have err : lcL p f (xs.drop (i + 1)) = some rr := err
        rw [err]
        exact congrArg some hr
    · rintro H' ⟨Bi, acc, ys, gi, hBD, hHD, ra, hr, _⟩
      rw [List.drop_length] at hr
      have e1 : ys = zs := by simpa [lcL] using hr
      subst e1
      exact q _ (upd Bi D (.lst acc)) H' (g2.trans (gi.keep hD hBD hHD)) (.lst upd_same (ra.kp (Kp.of fun b o e => by rw [upd_ne (ne_of_none e hBD)]; exact e)))
  · cases e
/-- one name -/
theorem eo_lc {wi : TI} {tt : TT} {te : TE} {vs : List Nat} {j : Nat} {oxs : Option (List U)} {p : U → Option Bool} {f : U → Option U} (hi : EvI wi σ B H oxs) (hw : ∀ x, wipe ((wipe σ vs).set j (some x)) vs = wipe σ vs)
    (hp : ∀ u v B1 H1, At B B1 H1 → Rp B1 u v → EvT tt ((wipe σ vs).set j (some v)) B1 H1 (p u)) (hf : ∀ u v B1 H1, At B B1 H1 → Rp B1 u v → EvO te ((wipe σ vs).set j (some v)) B1 H1 (f u)) :
    EvO (tLc wi (gName j) tt te vs) σ B H (oxs.bind fun xs => lcO p f xs) :=
  eo_lcG hi fun u v B1 H1 Q b g r eb k => k _ (hw v) (by rw [← eb]; exact hp u v B1 H1 g r) fun _ => hf u v B1 H1 g r
/-- two names -/
def unp2 : U → Option (U × U)
  | .tup [a, b] => some (a, b)
  | _ => none
theorem unp2_tup {u : U} {a b : U} (h : unp2 u = some (a, b)) : u = .tup [a, b] := by
  unfold unp2 at h
  split at h
  · cases h; rfl
  · cases h
theorem g_two {i j : Nat} {u a b : U} {v : V} {B1 H1 : Hp} {σ : St} {Q : St → Hp → Prop} (s : Same B1 H1) (r : Rp B1 u v) (h : unp2 u = some (a, b)) (k : ∀ x y, Rp B1 a x → Rp B1 b y → Q ((σ.set i (some x)).set j (some y)) H1) :
    gTup K 2 (gCons (gName i) (gCons (gName j) gNil)) v σ H1 Q := by
  have e := unp2_tup h
  subst e
  cases r with
  | @tup ad _ vs e r =>
    cases r with
    | cons r1 t =>
      cases t with
      | cons r2 t =>
        cases t
        exact ⟨ad, _, rfl, SqT.of (s _ _ e), rfl, _, _, rfl, _, _, rfl, rfl, k _ _ r1 r2⟩
theorem eo_lc2n {wi : TI} {tt : TT} {te : TE} {vs : List Nat} {j1 j2 : Nat} {oxs : Option (List U)} {p : U → U → Option Bool} {f : U → U → Option U} (hi : EvI wi σ B H oxs) (hw : ∀ x y, wipe (((wipe σ vs).set j1 (some x)).set j2 (some y)) vs = wipe σ vs)
    (hp : ∀ a b v w B1 H1, At B B1 H1 → Rp B1 a v → Rp B1 b w → EvT tt (((wipe σ vs).set j1 (some v)).set j2 (some w)) B1 H1 (p a b)) (hf : ∀ a b v w B1 H1, At B B1 H1 → Rp B1 a v → Rp B1 b w → EvO te (((wipe σ vs).set j1 (some v)).set j2 (some w)) B1 H1 (f a b)) :
    EvO (tLc wi (gTup K 2 (gCons (gName j1) (gCons (gName j2) gNil))) tt te vs) σ B H (oxs.bind fun xs => lcO (fun u => (unp2 u).bind fun ab => p ab.1 ab.2) (fun u => (unp2 u).bind fun ab => f ab.1 ab.2) xs) :=
  eo_lcG hi fun u v B1 H1 Q b g r eb k => by
    obtain ⟨⟨x, y⟩, eu, eb⟩ := bind_some eb
    refine g_two g.bh r eu fun a' b' ra rb => k _ (hw a' b') (by rw [← eb]; exact hp x y a' b' B1 H1 g ra rb) fun _ => ?_
    rw [eu]
    exact hf x y a' b' B1 H1 g ra rb
end
end Dn
set_option Elab.async false
set_option linter.all false
set_option maxRecDepth 100000
set_option maxHeartbeats 2000000
namespace Dn
open PySem L2
variable [CTab]
/-! ### two clauses -/
def lc2L (p : U → Option Bool) (ys : U → Option (List U)) (p1 : U → U → Option Bool) (f : U → U → Option U) : List U → Option (List U)
  | [] => some []
  | x :: r => (p x).bind fun b => if b = true then (ys x).bind fun l => if l.length ≤ lim then (lcL (p1 x) (f x) l).bind fun a => (lc2L p ys p1 f r).map fun z => a ++ z else none else lc2L p ys p1 f r
def lc2O (p : U → Option Bool) (ys : U → Option (List U)) (p1 : U → U → Option Bool) (f : U → U → Option U) (xs : List U) : Option U := (lc2L p ys p1 f xs).bind fun zs => if zs.length ≤ lim then some (.lst zs) else none
section
variable {σ : St} {B H : Hp} {K : PySem.W.Frag}
theorem eo_lc2G {wi wi1 : TI} {g g1 : TG} {tt tt1 : TT} {te : TE} {vs vs1 : List Nat} {oxs : Option (List U)} {p : U → Option Bool} {ys : U → Option (List U)} {p1 : U → U → Option Bool} {f : U → U → Option U} (hi : EvI wi σ B H oxs)
    (hg : ∀ u v B1 H1 (Q : St → Hp → Prop) b, At B B1 H1 → Rp B1 u v → p u = some b → (∀ σ2, wipe σ2 vs = wipe σ vs → EvT tt σ2 B1 H1 (some b) → (b = true → EvI wi1 σ2 B1 H1 (ys u) ∧
      ∀ u' v' B2 H2 (Q' : St → Hp → Prop) b', At B1 B2 H2 → Rp B2 u' v' → p1 u u' = some b' → (∀ σ3, wipe σ3 vs1 = wipe σ2 vs1 → EvT tt1 σ3 B2 H2 (some b') → (b' = true → EvO te σ3 B2 H2 (f u u')) → Q' σ3 H2) → g1 v' (wipe σ2 vs1) H2 Q') → Q σ2 H1) → g v (wipe σ vs) H1 Q) :
    EvO (tLc2 wi g tt wi1 g1 tt1 te vs vs1) σ B H (oxs.bind fun xs => lc2O p ys p1 f xs) := fun z e B0 H0 g0 Q q => by
  obtain ⟨xs, exs, e⟩ := bind_some e
  obtain ⟨zs, ezs, e⟩ := bind_some e
  split at e
  · rename_i hzs
    cases e
    refine hi xs exs B0 H0 g0 _ fun J B2 H2 g2 w => fun D hD => ?_
    let Pv : Nat → Hp → Prop := fun i H' => ∃ Bi acc as, Go B2 H2 Bi H' ∧ Bi D = none ∧ H' D = some (.lst acc) ∧ Rps Bi as acc ∧ (lc2L p ys p1 f (xs.drop i)).map (fun r => as ++ r) = some zs
    refine ⟨fun i m H' => m = xs.length - i ∧ i ≤ xs.length ∧ Pv i H', ⟨xs.length, by simp, Nat.zero_le _, B2, [], [], Go.own g2.bh hD, g2.bh.free hD, upd_same, .nil, by simp [ezs]⟩, ?_⟩
    rintro i m H' ⟨rfl, hin, Bi, acc, as, gi, hBD, hHD, ra, hr⟩
    have sB : Same B2 H' := gi.b.trans gi.bh
    by_cases hlt : i < xs.length
    · refine .inr ⟨w.goes i H' hlt sB, Pv (i + 1), fun H'' p' => ⟨xs.length - (i + 1), by omega, rfl, hlt, p'⟩, fun x H'' y => ?_⟩
      obtain ⟨B', u, g', eu, ru⟩ := w.yields i H' x H'' Bi hlt gi.b gi.bh y
      rw [drop_at eu] at hr
      obtain ⟨rr, err, hr⟩ := map_some hr
      obtain ⟨b, eb, err⟩ := bind_some err
      have gg : At B B' H'' := (g0.trans g2).trans (gi.trans g')
      refine hg u x B' H'' _ b gg ru eb fun σ2 hw ht hte => ⟨hw, ?_⟩
      refine ht b rfl B' H'' (Go.refl gg.bh) _ fun B3 H3 g3 => ?_
      have hB'D : B' D = none := g'.noB hBD hHD
      have hH''D : H'' D = some (.lst acc) := g'.h _ _ hHD
      cases b with
      | false =>
        have hB3 : B3 D = none := g3.noB hB'D hH''D
        have hH3 : H3 D = some (.lst acc) := g3.h _ _ hH''D
        refine ⟨B3, acc, as, (gi.trans g').trans g3, hB3, hH3, (ra.up g').up g3, ?_⟩
        have err : lc2L p ys p1 f (xs.drop (i + 1)) = some rr := err
        rw [err]
        exact congrArg some hr
      | true =>
        obtain ⟨hI, hG1⟩ := hte rfl
        obtain ⟨l, el, err⟩ := bind_some (show (ys u).bind _ = _ from err)
        split at err
        · rename_i hl
          obtain ⟨a1, ea1, err⟩ := bind_some err
          obtain ⟨r2, er2, err⟩ := map_some err
          subst err
          refine hI l el B3 H3 g3 _ fun J1 B4 H4 g4 w1 => ?_
          have g34 : Go B' H'' B4 H4 := g3.trans g4
          have hB4D : B4 D = none := g34.noB hB'D hH''D
          have hH4D : H4 D = some (.lst acc) := g34.h _ _ hH''D
          have hrl : as.length + a1.length ≤ lim := by
            have e1 : zs = as ++ (a1 ++ r2) := hr.symm
            rw [e1] at hzs
            simp only [List.length_append] at hzs
            omega
          let Pw : Nat → Hp → Prop := fun j Hj => ∃ Bj accj bs, Go B4 H2 Bj Hj ∧ Bj D = none ∧ Hj D = some (.lst accj) ∧ Rps Bj (as ++ bs) accj ∧ (lcL (p1 u) (f u) (l.drop j)).map (fun r => bs ++ r) = some a1
          -- the position: B4 over H2, D is one's own
          have gB : Go B4 H2 B4 H4 := ⟨(gi.trans g').h.trans g34.h, Same.refl _, g34.bh, fun a o e => .inl e⟩
          refine ⟨fun j k Hj => k = l.length - j ∧ j ≤ l.length ∧ Pw j Hj ∧ True, ⟨l.length, by simp, Nat.zero_le _, ⟨B4, acc, [], gB, hB4D, hH4D, by simpa using (ra.up g').up g34, by simp [ea1]⟩, trivial⟩, ?_⟩
          rintro j k Hj ⟨rfl, hjn, ⟨Bj, accj, bs, gj, hBjD, hHjD, raj, hrj⟩, _⟩
          have sBj : Same B4 Hj := gj.b.trans gj.bh
          by_cases hjlt : j < l.length
          · refine .inr ⟨w1.goes j Hj hjlt sBj, Pw (j + 1), fun Hk p' => ⟨l.length - (j + 1), by omega, rfl, hjlt, p', trivial⟩, fun x1 Hk y1 => ?_⟩
            obtain ⟨Bk, u1, gk, eu1, ru1⟩ := w1.yields j Hj x1 Hk Bj hjlt gj.b gj.bh y1
            rw [drop_at eu1] at hrj
            obtain ⟨rj, erj, hrj⟩ := map_some hrj
            obtain ⟨b1, eb1, erj⟩ := bind_some erj
            have hBkD : Bk D = none := gk.noB hBjD hHjD
            have hHkD : Hk D = some (.lst accj) := gk.h _ _ hHjD
            have gBk : At B' Bk Hk := ⟨g34.b.trans (gj.b.trans gk.b), gk.bh⟩
            refine hG1 u1 x1 Bk Hk _ b1 gBk ru1 eb1 fun σ3 hw3 ht3 hte3 => ⟨hw3, ?_⟩
            refine ht3 b1 rfl Bk Hk (Go.refl gBk.bh) _ fun B5 H5 g5 => ?_
            have gj5 : Go B4 H2 B5 H5 := (gj.trans gk).trans g5
            have raj5 := (raj.up gk).up g5
            cases b1 with
            | true =>
              obtain ⟨yv, ey, erj⟩ := bind_some (show (f u u1).bind _ = _ from erj)
              obtain ⟨r3, er3, erj⟩ := map_some erj
              subst erj
              refine hte3 rfl yv ey B5 H5 g5 _ fun v6 B6 H6 g6 r6 => ?_
              have hB6 : B6 D = none := (g5.trans g6).noB hBkD hHkD
              have hH6 : H6 D = some (.lst accj) := (g5.trans g6).h _ _ hHkD
              refine ⟨accj, hH6, lim_lt ?_, B6, accj ++ [v6], bs ++ [yv], (gj5.trans g6).mut hD hB6, hB6, upd_same, ?_, ?_⟩
              · have e1 := raj.length
                have e2 : a1 = bs ++ (yv :: r3) := hrj.symm
                rw [e2] at hrl
                simp only [List.length_append, List.length_cons] at hrl e1
                omega
              · rw [← List.append_assoc]
                exact (raj5.up g6).append (.one r6)
              · rw [er3, ← hrj]
                simp
            | false =>
              have hB5 : B5 D = none := g5.noB hBkD hHkD
              have hH5 : H5 D = some (.lst accj) := g5.h _ _ hHkD
              refine ⟨B5, accj, bs, gj5, hB5, hH5, raj5, ?_⟩
              have erj : lcL (p1 u) (f u) (l.drop (j + 1)) = some rj := erj
              rw [erj]
              exact congrArg some hrj
          · have e1 : j = l.length := by omega
            subst e1
            rw [List.drop_length] at hrj
            have e1 : bs = a1 := by simpa [lcL] using hrj
            subst e1
            have g24 : Go B2 H2 B4 H4 := (gi.trans g').trans g34
            refine .inl ⟨w1.stops Hj sBj, Bj, accj, as ++ bs, ⟨gj.h, g24.b.trans gj.b, gj.bh, fun a o e => ?_⟩, hBjD, hHjD, raj, ?_⟩
            · rcases gj.fr a o e with e | e
              · exact g24.fr a o e
              · exact .inr e
            · rw [er2]
              rw [← hr]
              simp
        · cases err
    · have e1 : i = xs.length := by omega
      subst e1
      rw [List.drop_length] at hr
      have e1 : as = zs := by simpa [lc2L] using hr
      subst e1
      exact .inl ⟨w.stops H' sB, q _ (upd Bi D (.lst acc)) H' (g2.trans (gi.keep hD hBD hHD)) (.lst upd_same (ra.kp (Kp.of fun b o e => by rw [upd_ne (ne_of_none e hBD)]; exact e)))⟩
  · cases e
/-- one name each -/
theorem eo_lc2 {wi wi1 : TI} {tt tt1 : TT} {te : TE} {vs vs1 : List Nat} {j j1 : Nat} {oxs : Option (List U)} {p : U → Option Bool} {ys : U → Option (List U)} {p1 : U → U → Option Bool} {f : U → U → Option U} (hi : EvI wi σ B H oxs)
    (hw : ∀ x, wipe ((wipe σ vs).set j (some x)) vs = wipe σ vs) (hw1 : ∀ x y, wipe ((wipe ((wipe σ vs).set j (some x)) vs1).set j1 (some y)) vs1 = wipe ((wipe σ vs).set j (some x)) vs1)
    (hp : ∀ u v B1 H1, At B B1 H1 → Rp B1 u v → EvT tt ((wipe σ vs).set j (some v)) B1 H1 (p u)) (hy : ∀ u v B1 H1, At B B1 H1 → Rp B1 u v → EvI wi1 ((wipe σ vs).set j (some v)) B1 H1 (ys u))
    (hp1 : ∀ u v u' v' B1 H1, At B B1 H1 → Rp B1 u v → Rp B1 u' v' → EvT tt1 ((wipe ((wipe σ vs).set j (some v)) vs1).set j1 (some v')) B1 H1 (p1 u u'))
    (hf : ∀ u v u' v' B1 H1, At B B1 H1 → Rp B1 u v → Rp B1 u' v' → EvO te ((wipe ((wipe σ vs).set j (some v)) vs1).set j1 (some v')) B1 H1 (f u u')) :
    EvO (tLc2 wi (gName j) tt wi1 (gName j1) tt1 te vs vs1) σ B H (oxs.bind fun xs => lc2O p ys p1 f xs) :=
  eo_lc2G hi fun u v B1 H1 Q b g r eb k => k _ (hw v) (by rw [← eb]; exact hp u v B1 H1 g r) fun _ => ⟨hy u v B1 H1 g r, fun u' v' B2 H2 Q' b' g' r' eb' k' => by
    have gg : At B B2 H2 := g.tr g'
    exact k' _ (hw1 v v') (by rw [← eb']; exact hp1 u v u' v' B2 H2 gg (r.upA g') r') fun _ => hf u v u' v' B2 H2 gg (r.upA g') r'⟩
end
/-! ### statements -/
section
variable {σ : St} {B H B0 H0 : Hp} {K : PySem.W.Frag} {te tb : TE} {t : TT} {tu tw tz : TS} {D : Ends} {o : Option U} {r : U}
theorem q_ret (h : EvO te σ B H o) (e : o = some r) (g : Go B0 H0 B H) (k : ∀ v B2 H2, Go B0 H0 B2 H2 → Rp B2 r v → D.rt v H2) : tSeq (tRet te) tz D σ H :=
  h r e B H (Go.refl g.bh) _ fun v B2 H2 g2 r2 => k v B2 H2 (g.trans g2) r2
theorem q_asg {α : Type} {i : Nat} {f : U → Option α} {m : α} (s : Same B H) (h : EvO te σ B H o) (e : o.bind f = some m) (k : ∀ x v B1 H1, Go B H B1 H1 → Rp B1 x v → f x = some m → tz D (σ.set i (some v)) H1) : tSeq (tAsg te (gName i)) tz D σ H := by
  obtain ⟨x, ex, e⟩ := bind_some e
  exact h x ex B H (Go.refl s) _ fun v B2 H2 g2 r2 => k x v B2 H2 g2 r2 e
theorem q_expr {α : Type} {f : U → Option α} {m : α} (s : Same B H) (h : EvO te σ B H o) (e : o.bind f = some m) (k : ∀ x v B1 H1, Go B H B1 H1 → Rp B1 x v → f x = some m → tz D σ H1) : tSeq (tDrop te) tz D σ H := by
  obtain ⟨x, ex, e⟩ := bind_some e
  exact h x ex B H (Go.refl s) _ fun v B2 H2 g2 r2 => k x v B2 H2 g2 r2 e
theorem q_two {α : Type} {i j : Nat} {f : U × U → Option α} {m : α} (s : Same B H) (h : EvO te σ B H o) (e : (o.bind unp2).bind f = some m) (k : ∀ x y v w B1 H1, Go B H B1 H1 → Rp B1 x v → Rp B1 y w → f (x, y) = some m → tz D ((σ.set i (some v)).set j (some w)) H1) :
    tSeq (tAsg te (gTup K 2 (gCons (gName i) (gCons (gName j) gNil)))) tz D σ H := by
  obtain ⟨⟨x, y⟩, exy, e⟩ := bind_some e
  obtain ⟨u, eu, exy⟩ := bind_some exy
  exact h u eu B H (Go.refl s) _ fun v B2 H2 g2 r2 => g_two g2.bh r2 exy fun a b ra rb => k x y a b B2 H2 g2 ra rb e
theorem q_par {α : Type} {i j : Nat} {ta : TA} {ol : Option (List U)} {f : List U → Option α} {m : α} (s : Same B H) (h : EvA ta σ B H ol) (hn : ∀ xs, ol = some xs → ∃ x y, xs = [x, y]) (e : ol.bind f = some m)
    (k : ∀ x y v w B1 H1, Go B H B1 H1 → Rp B1 x v → Rp B1 y w → f [x, y] = some m → tz D ((σ.set i (some v)).set j (some w)) H1) : tSeq (tPar i j ta) tz D σ H := by
  obtain ⟨xs, exs, e⟩ := bind_some e
  obtain ⟨x, y, rfl⟩ := hn xs exs
  refine h _ exs B H (Go.refl s) _ fun vs B2 H2 g2 r2 => ?_
  cases r2 with
  | cons r1 t =>
    cases t with
    | cons r2 t =>
      cases t
      exact ⟨_, _, rfl, k x y _ _ B2 H2 g2 r1 r2 e⟩
theorem q_if {α : Type} {c : Option Bool} {m1 m2 : Option α} {m : α} (s : Same B H) (h : EvT t σ B H c) (e : ifO c m1 m2 = some m) (h1 : c = some true → m1 = some m → ∀ B1 H1, Go B H B1 H1 → tu { D with nx := tz D } σ H1) (h2 : c = some false → m2 = some m → ∀ B1 H1, Go B H B1 H1 → tw { D with nx := tz D } σ H1) : tSeq (tIfS t tu tw) tz D σ H := by
  obtain ⟨x, ex, e⟩ := bind_some e
  refine h x ex B H (Go.refl s) _ fun B2 H2 g2 => ?_
  cases x with
  | true => exact h1 ex e B2 H2 g2
  | false => exact h2 ex e B2 H2 g2
theorem q_for {wi : TI} {g : TG} {oxs : Option (List U)} {xs : List U} (s : Same B H) (hi : EvI wi σ B H oxs) (exs : oxs = some xs)
    (k : ∀ B2 H2, Go B H B2 H2 → ∃ R : List U → St → Hp → Hp → Prop, R xs σ B2 H2 ∧ (∀ l σ' B' H', R l σ' B' H' → Same B2 B' ∧ Same B' H') ∧
      (∀ u l v σ' B' H' B'' H'', R (u :: l) σ' B' H' → Go B' H' B'' H'' → Rp B'' u v → g v σ' H'' fun σ2 H3 => tu { D with nx := fun σ3 H4 => ∃ B4, R l σ3 B4 H4, ct := fun σ3 H4 => ∃ B4, R l σ3 B4 H4, bk := tz D } σ2 H3) ∧
      (∀ σ' B' H', R [] σ' B' H' → tz D σ' H')) : tSeq (tFor wi g tu) tz D σ H := by
  refine hi xs exs B H (Go.refl s) _ fun J B2 H2 g2 w => ?_
  obtain ⟨R, r0, rs, rt, rd⟩ := k B2 H2 g2
  have w' : Walk J xs.length (fun H' => Same B2 H') (J.yld) := ⟨w.goes, w.stops, fun _ _ _ _ _ _ y => y⟩
  refine for_it (D := { D with nx := tz D }) w' (fun i σ' H' => ∃ B', R (xs.drop i) σ' B' H') ⟨B2, r0⟩ (fun i σ' H' _ ⟨B', r⟩ => (rs _ _ _ _ r).1.trans (rs _ _ _ _ r).2) ?_ ?_
  · rintro i x σ' H' H'' hin ⟨B', r⟩ y
    obtain ⟨s1, s2⟩ := rs _ _ _ _ r
    obtain ⟨B'', u, g', eu, ru⟩ := w.yields i H' x H'' B' hin s1 s2 y
    rw [drop_at eu] at r
    exact rt u _ x σ' B' H' B'' H'' r g' ru
  · rintro σ' H' ⟨B', r⟩
    rw [List.drop_length] at r
    exact rd σ' B' H' r
end
/-! ### a def's arguments -/
def a0 (f : Option U) : List U → Option U
  | [] => f
  | _ => none
def a1 (f : U → Option U) : List U → Option U
  | [x] => f x
  | _ => none
def a2 (f : U → U → Option U) : List U → Option U
  | [x, y] => f x y
  | _ => none
def a3 (f : U → U → U → Option U) : List U → Option U
  | [x, y, z] => f x y z
  | _ => none
def a4 (f : U → U → U → U → Option U) : List U → Option U
  | [x, y, z, w] => f x y z w
  | _ => none
def a5 (f : U → U → U → U → U → Option U) : List U → Option U
  | [x, y, z, w, q] => f x y z w q
  | _ => none
section
variable {vs : List V} {H : Hp} {Q : VK} {E : XK}
theorem sp0 {f : Option U} (h : spU (a0 f) vs H Q E) : ∃ B r, vs = [] ∧ Same B H ∧ f = some r ∧ ∀ v B2 H2, Go B H B2 H2 → Rp B2 r v → Q v H2 := by
  obtain ⟨B, xs, r, s, rs, e, k⟩ := h
  match xs, rs, e with
  | [], .nil, e => exact ⟨B, r, rfl, s, e, k⟩
theorem sp1 {f : U → Option U} (h : spU (a1 f) vs H Q E) : ∃ B x v r, vs = [v] ∧ Same B H ∧ Rp B x v ∧ f x = some r ∧ ∀ v B2 H2, Go B H B2 H2 → Rp B2 r v → Q v H2 := by
  obtain ⟨B, xs, r, s, rs, e, k⟩ := h
  match xs, rs, e with
  | [x], .cons r1 .nil, e => exact ⟨B, x, _, r, rfl, s, r1, e, k⟩
theorem sp2 {f : U → U → Option U} (h : spU (a2 f) vs H Q E) : ∃ B x y v w r, vs = [v, w] ∧ Same B H ∧ Rp B x v ∧ Rp B y w ∧ f x y = some r ∧ ∀ v B2 H2, Go B H B2 H2 → Rp B2 r v → Q v H2 := by
  obtain ⟨B, xs, r, s, rs, e, k⟩ := h
  match xs, rs, e with
  | [x, y], .cons r1 (.cons r2 .nil), e => exact ⟨B, x, y, _, _, r, rfl, s, r1, r2, e, k⟩
theorem sp3 {f : U → U → U → Option U} (h : spU (a3 f) vs H Q E) : ∃ B x y z v w u r, vs = [v, w, u] ∧ Same B H ∧ Rp B x v ∧ Rp B y w ∧ Rp B z u ∧ f x y z = some r ∧ ∀ v B2 H2, Go B H B2 H2 → Rp B2 r v → Q v H2 := by
  obtain ⟨B, xs, r, s, rs, e, k⟩ := h
  match xs, rs, e with
  | [x, y, z], .cons r1 (.cons r2 (.cons r3 .nil)), e => exact ⟨B, x, y, z, _, _, _, r, rfl, s, r1, r2, r3, e, k⟩
theorem sp4 {f : U → U → U → U → Option U} (h : spU (a4 f) vs H Q E) : ∃ B x y z t v w u q r, vs = [v, w, u, q] ∧ Same B H ∧ Rp B x v ∧ Rp B y w ∧ Rp B z u ∧ Rp B t q ∧ f x y z t = some r ∧ ∀ v B2 H2, Go B H B2 H2 → Rp B2 r v → Q v H2 := by
  obtain ⟨B, xs, r, s, rs, e, k⟩ := h
  match xs, rs, e with
  | [x, y, z, t], .cons r1 (.cons r2 (.cons r3 (.cons r4 .nil))), e => exact ⟨B, x, y, z, t, _, _, _, _, r, rfl, s, r1, r2, r3, r4, e, k⟩
end
end Dn
set_option Elab.async false
set_option linter.all false
set_option maxRecDepth 100000
set_option maxHeartbeats 2000000
namespace Dn
open PySem L2
variable [CTab]
/-! ### short forms -/
def op2 (f : U → U → Option U) (a b : Option U) : Option U := a.bind fun x => b.bind fun y => f x y
def op1 (f : U → Option U) (a : Option U) : Option U := a.bind f
def isO (f : U → Option Bool) (a : Option U) : Option U := a.bind fun x => (f x).map U.bl
def slO (a : Option U) (l h : Option (Option Int)) : Option U := a.bind fun x => l.bind fun lo => h.bind fun hi => sliceV x lo hi
def ptO (a : Option U) : Option (Option Int) := (a.bind U.asI).map some
def testO (a : Option U) : Option Bool := a.bind U.asB
def callO (m : List U → Option U) (a : Option (List U)) : Option U := a.bind m
def iterO (f : U → Option (List U)) (a : Option U) : Option (List U) := a.bind f
def rngO (f : List U → Option (List U)) (a : Option (List U)) : Option (List U) := a.bind f
def compO (p : U → Option Bool) (f : U → Option U) (xs : Option (List U)) : Option U := xs.bind fun l => lcO p f l
def compO2 (p : U → U → Option Bool) (f : U → U → Option U) (xs : Option (List U)) : Option U := xs.bind fun l => lcO (fun u => (unp2 u).bind fun ab => p ab.1 ab.2) (fun u => (unp2 u).bind fun ab => f ab.1 ab.2) l
def compOO (p : U → Option Bool) (ys : U → Option (List U)) (p1 : U → U → Option Bool) (f : U → U → Option U) (xs : Option (List U)) : Option U := xs.bind fun l => lc2O p ys p1 f l
/-- a < b <= c -/
def chainO (f f' : U → U → Option U) (a b c : Option U) : Option U := a.bind fun x => b.bind fun y => (f x y).bind fun z => z.asB.bind fun k => if k = true then c.bind fun w => f' y w else some (.bl false)
section
variable {σ : St} {B H B1 H1 : Hp} {ta tb te tc : TE} {t u : TT} {oa ob oc : Option U} {K : PySem.W.Frag}
theorem eo_op2 {r : R2} {f : U → U → Option U} (hr : RV r f) (ha : EvO ta σ B H oa) (hb : EvO tb σ B H ob) : EvO (tOp r ta tb) σ B H (op2 f oa ob) := eo_op ha hb hr
theorem eo_op1 {r : V → Hp → VK → Prop} {f : U → Option U} (hr : RU r f) (ha : EvO ta σ B H oa) : EvO (tUn r ta) σ B H (op1 f oa) := eo_un ha hr
theorem eo_cb' {r : List V → Hp → VK → Prop} {f : List U → Option U} {tl : TA} {ol : Option (List U)} (hr : RC r f) (ha : EvA tl σ B H ol) : EvO (tCB r tl) σ B H (callO f ol) := eo_cb ha hr
theorem eo_chain {r r' : R2} {f f' : U → U → Option U} (hr : RV r f) (hr' : RV r' f') (ha : EvO ta σ B H oa) (hb : EvO tb σ B H ob) (hc : EvO tc σ B H oc) : EvO (tChain r r' ta tb tc) σ B H (chainO f f' oa ob oc) := fun z e B1 H1 g Q q => by
  obtain ⟨x, ex, e⟩ := bind_some e
  obtain ⟨y, ey, e⟩ := bind_some e
  obtain ⟨z1, ez, e⟩ := bind_some e
  obtain ⟨k, ek, e⟩ := bind_some e
  refine ha x ex B1 H1 g _ fun v B2 H2 g2 r2 => hb y ey B2 H2 (g.trans g2) _ fun w B3 H3 g3 r3 => hr x y z1 ez v w B3 H3 g3.bh (r2.up g3) r3 _ fun v2 B4 H4 g4 r4 => ?_
  cases z1 <;> cases ek
  cases r4
  refine ⟨k, rfl, ?_⟩
  cases k with
  | true =>
    obtain ⟨w1, ew, e⟩ := bind_some (show oc.bind _ = _ from e)
    exact hc w1 ew B4 H4 (((g.trans g2).trans g3).trans g4) _ fun v5 B5 H5 g5 r5 => hr' y w1 z e w v5 B5 H5 g5.bh ((r3.up g4).up g5) r5 Q fun v6 B6 H6 g6 r6 => q v6 B6 H6 ((((g2.trans g3).trans g4).trans g5).trans g6) r6
  | false =>
    cases e
    exact q _ B4 H4 ((g2.trans g3).trans g4) (.bl false)
end
theorem Rp.sm {B B' : Hp} {u : U} {v : V} (r : Rp B u v) (s : Same B B') : Rp B' u v := r.kp (Kp.of s)
section
variable {σ : St} {B H B0 H0 : Hp} {K : PySem.W.Frag} {te tb : TE} {t : TT} {tu tw tz : TS} {D : Ends} {o : Option U} {r : U}
theorem g_twoM {α : Type} {i j : Nat} {u : U} {v : V} {B1 H1 : Hp} {σ : St} {Q : St → Hp → Prop} {F : U × U → Option α} {m : α} (s : Same B1 H1) (r : Rp B1 u v) (e : (unp2 u).bind F = some m) (k : ∀ a b x y, Rp B1 a x → Rp B1 b y → F (a, b) = some m → Q ((σ.set i (some x)).set j (some y)) H1) :
    gTup K 2 (gCons (gName i) (gCons (gName j) gNil)) v σ H1 Q := by
  obtain ⟨⟨a, b⟩, eu, e⟩ := bind_some e
  exact g_two s r eu fun x y ra rb => k a b x y ra rb e
theorem q_forM {α : Type} {wi : TI} {g : TG} {oxs : Option (List U)} {F : List U → Option α} {m : α} (s : Same B H) (hi : EvI wi σ B H oxs) (e : oxs.bind F = some m)
    (k : ∀ xs B2 H2, F xs = some m → Go B H B2 H2 → ∃ R : List U → St → Hp → Hp → Prop, R xs σ B2 H2 ∧ (∀ l σ' B' H', R l σ' B' H' → Same B2 B' ∧ Same B' H') ∧
      (∀ u l v σ' B' H' B'' H'', R (u :: l) σ' B' H' → Go B' H' B'' H'' → Rp B'' u v → g v σ' H'' fun σ2 H3 => tu { D with nx := fun σ3 H4 => ∃ B4, R l σ3 B4 H4, ct := fun σ3 H4 => ∃ B4, R l σ3 B4 H4, bk := tz D } σ2 H3) ∧
      (∀ σ' B' H', R [] σ' B' H' → tz D σ' H')) : tSeq (tFor wi g tu) tz D σ H := by
  obtain ⟨xs, exs, e⟩ := bind_some e
  exact q_for s hi exs fun B2 H2 g2 => k xs B2 H2 e g2
end
end Dn
set_option Elab.async false
set_option linter.all false
set_option maxRecDepth 100000
set_option maxHeartbeats 2000000
namespace Dn
open PySem L2
variable [CTab]
def par2 {α : Type} (ol : Option (List U)) (f : U → U → Option α) : Option α := ol.bind fun xs => match xs with
  | [x, y] => f x y
  | _ => none
def two2 {α : Type} (o : Option U) (f : U → U → Option α) : Option α := (o.bind unp2).bind fun ab => f ab.1 ab.2
def unp2F {α : Type} (u : U) (f : U → U → Option α) : Option α := (unp2 u).bind fun ab => f ab.1 ab.2
section
variable {σ : St} {B H B0 H0 : Hp} {K : PySem.W.Frag} {te tb : TE} {t : TT} {tu tw tz : TS} {D : Ends} {o : Option U} {r : U}
theorem fall_end (g : Go B0 H0 B H) {σ : St} {Q : VK} (e : some U.non = some r) (k : ∀ v B2 H2, Go B0 H0 B2 H2 → Rp B2 r v → Q v H2) : Q .non H := by
  cases e
  exact k _ B H g .non
theorem q_par2 {α : Type} {i j : Nat} {ta : TA} {ol : Option (List U)} {f : U → U → Option α} {m : α} (s : Same B H) (h : EvA ta σ B H ol) (e : par2 ol f = some m)
    (k : ∀ x y v w B1 H1, Go B H B1 H1 → Rp B1 x v → Rp B1 y w → f x y = some m → tz D ((σ.set i (some v)).set j (some w)) H1) : tSeq (tPar i j ta) tz D σ H := by
  obtain ⟨xs, exs, e⟩ := bind_some e
  match xs, exs, e with
  | [x, y], exs, e =>
    refine h _ exs B H (Go.refl s) _ fun vs B2 H2 g2 r2 => ?_
    cases r2 with
    | cons r1 t =>
      cases t with
      | cons r2 t =>
        cases t
        exact ⟨_, _, rfl, k x y _ _ B2 H2 g2 r1 r2 e⟩
theorem q_two2 {α : Type} {i j : Nat} {f : U → U → Option α} {m : α} (s : Same B H) (h : EvO te σ B H o) (e : two2 o f = some m) (k : ∀ x y v w B1 H1, Go B H B1 H1 → Rp B1 x v → Rp B1 y w → f x y = some m → tz D ((σ.set i (some v)).set j (some w)) H1) :
    tSeq (tAsg te (gTup K 2 (gCons (gName i) (gCons (gName j) gNil)))) tz D σ H := q_two s h e k
theorem g_two2 {α : Type} {i j : Nat} {u : U} {v : V} {B1 H1 : Hp} {σ : St} {Q : St → Hp → Prop} {F : U → U → Option α} {m : α} (s : Same B1 H1) (r : Rp B1 u v) (e : unp2F u F = some m) (k : ∀ a b x y, Rp B1 a x → Rp B1 b y → F a b = some m → Q ((σ.set i (some x)).set j (some y)) H1) :
    gTup K 2 (gCons (gName i) (gCons (gName j) gNil)) v σ H1 Q := g_twoM s r e k
end
end Dn
set_option Elab.async false
set_option linter.all false
set_option maxRecDepth 100000
set_option maxHeartbeats 2000000
namespace Dn
open PySem PySem.Spec PyProof.Rows L2
variable [CTab]
/-! ### zip of two sequences, lists or tuples in any mix -/
def SqX (K : PySem.W.Frag) (H : Hp) (k : Bool) (a : Addr) (xs : List V) : Prop := if k = true then SqT K H a xs else SqL K H a xs
def IterX (k : Bool) (h : Heap) (it a : Addr) (i : Nat) : Prop := if k = true then h.IsTupleIter it a i else h.IsListIter it a i
def IsX (k : Bool) (h : Heap) (a : Addr) (its : Array Value) : Prop := if k = true then h.IsTuple a its else h.IsList a its
theorem IterX.ob {k : Bool} {h : Heap} {it a : Addr} {i : Nat} (x : IterX k h it a i) : ∃ o, h.get? it = some o ∧ ∀ v, o.data ≠ .cell v := by
  cases k with
  | true => obtain ⟨o, e, _, d⟩ := (show h.IsTupleIter it a i from x); exact ⟨o, e, fun v q => by rw [d] at q; cases q⟩
  | false => obtain ⟨o, e, _, d⟩ := (show h.IsListIter it a i from x); exact ⟨o, e, fun v q => by rw [d] at q; cases q⟩
theorem IterX.at {k : Bool} {h h' : Heap} {it a : Addr} {i : Nat} (x : IterX k h it a i) (e : ∀ o, h.get? it = some o → h'.get? it = some o) : IterX k h' it a i := by
  cases k with
  | true => exact (show h.IsTupleIter it a i from x).at e
  | false => exact (show h.IsListIter it a i from x).at e
theorem drawsX {prog : Program} {w : World} {A : Around} (hh : A.handled = none) (k : Bool) (it l : Addr) (hne : l ≠ it) (items : Array Value) :
    Draws prog w A it [it, l] items.size (fun i v => items[i]? = some v) (fun i h => IterX k h it l i ∧ IsX k h l items) := by
  cases k with
  | true => exact Draws.tuple hh it l hne items
  | false => exact Draws.list hh it l hne items
theorem sqx_of {X : Cx} {pins : List (Addr × Obj)} {σ : L2.St} {H : Hp} {s : Shared} {k : Bool} {a : Addr} {xs : List V} (I : Inv X pins σ H s) (h : SqX X.K H k a xs) : ∃ its : List Value, Vals xs its ∧ IsX k s.heap a its.toArray ∧ a < s.heap.objs.size := by
  cases k with
  | true => obtain ⟨its, r, p, _⟩ := I.tuple (show SqT X.K H a xs from h); exact ⟨its, r, p, p.lt⟩
  | false => obtain ⟨its, r, p, _⟩ := I.list (show SqL X.K H a xs from h); exact ⟨its, r, p.isList, p.lt⟩
theorem sqx_inj {X : Cx} {pins : List (Addr × Obj)} {σ : L2.St} {H : Hp} {s : Shared} {k : Bool} {a : Addr} {xs ys : List V} (I : Inv X pins σ H s) (h : SqX X.K H k a xs) (h' : SqX X.K H k a ys) : xs = ys := by
  cases k with
  | true => exact I.tuple_inj h h'
  | false => exact I.list_inj h h'
def ItzX (K : PySem.W.Frag) (ka kb : Bool) (a b : Addr) : It :=
  ⟨fun i H => ∃ (xs ys : List V) (x y : V), SqX K H ka a xs ∧ SqX K H kb b ys ∧ xs[i]? = some x ∧ ys[i]? = some y,
    fun i H v H' => ∃ T x y, v = .ref T ∧ H T = none ∧ H' = upd H T (.tup [x, y]) ∧ (∀ xs, SqX K H ka a xs → xs[i]? = some x) ∧ ∀ ys, SqX K H kb b ys → ys[i]? = some y,
    fun i H => ∃ xs ys : List V, SqX K H ka a xs ∧ SqX K H kb b ys ∧ i ≤ xs.length ∧ i ≤ ys.length ∧ (i = xs.length ∨ i = ys.length)⟩
theorem turn_zipX {P : Program} {w : World} {K : PySem.W.Frag} {elts : List Expr} {kk : Nat} {tpos : Pos} {ka kb : Bool} {a b z TI TO i1 i2 : Addr} (D : ZipSep2 z TI TO i1 i2 [i1, a] [i2, b]) (na : a ≠ i1) (nb : b ≠ i2) :
    Turn P w K (.Tuple elts kk tpos) (ItzX K ka kb a b) [z, TI, TO, i1, i2] z (fun i h => IsZip h z TI TO .none ∧ IsTupOf2 h TI (.ref i1) (.ref i2) ∧ (∃ x y, IsTupOf2 h TO x y) ∧ IterX ka h i1 a i ∧ IterX kb h i2 b i) where
  mem := by simp
  obj := fun i h st c hc => by
    obtain ⟨hz, hTI, ⟨x, y, hTO⟩, h1, h2⟩ := st
    have e' : c = z ∨ c = TI ∨ c = TO ∨ c = i1 ∨ c = i2 := by simpa using hc
    rcases e' with q | q | q | q | q
    · rw [q]; exact ⟨_, hz, fun v q => nomatch q⟩
    · rw [q]; exact ⟨_, hTI, fun v q => nomatch q⟩
    · rw [q]; exact ⟨_, hTO, fun v q => nomatch q⟩
    · rw [q]; exact h1.ob
    · rw [q]; exact h2.ob
  keep := fun i h h' st k => by
    obtain ⟨hz, hTI, ⟨x, y, hTO⟩, h1, h2⟩ := st
    exact ⟨k z (by simp) _ hz, k TI (by simp) _ hTI, ⟨x, y, k TO (by simp) _ hTO⟩, h1.at fun o q => k i1 (by simp) o q, h2.at fun o q => k i2 (by simp) o q⟩
  item := by
    intro X hP hw hK hc i pins s σ H E I hf st hg
    subst hP hw hK
    obtain ⟨hz, hTI, ⟨x0, y0, hTO⟩, h1, h2⟩ := st
    obtain ⟨xs, ys, x, y, hqx, hqy, hx, hy⟩ := hg
    obtain ⟨its, rv, p, la⟩ := sqx_of I hqx
    obtain ⟨its2, rv2, p2, lb⟩ := sqx_of I hqy
    obtain ⟨u, hu, ru⟩ := rv.get hx
    obtain ⟨u2, hu2, ru2⟩ := rv2.get hy
    have hzl : z < s.heap.objs.size := Heap.lt_size hz
    have hh : X.A.in1.handled = none := I.ok.hd hc
    have hi1 : i < its.toArray.size := by simpa using (List.getElem?_eq_some_iff.mp hu).1
    have hi2 : i < its2.toArray.size := by simpa using (List.getElem?_eq_some_iff.mp hu2).1
    refine wpAny_pyNext_zipD2_item D (drawsX hh ka i1 a na its.toArray) (drawsX hh kb i2 b nb its2.toArray) hz hTI hTO ⟨h1, p⟩ ⟨h2, p2⟩ hi1 hi2 fun x1 x2 h' tk e1 e2 z' TO' st1' st2' hT hsz hk => ?_
    have ex1 : x1 = u := by
      have : its[i]? = some x1 := by simpa using e1
      rw [hu] at this; cases this; rfl
    have ex2 : x2 = u2 := by
      have : its2[i]? = some x2 := by simpa using e2
      rw [hu2] at this; cases this; rfl
    subst ex1 ex2
    refine ⟨_, rfl, wpAny_letOwnedTupleGo_zip (s := { s with heap := h', toks := tk }) z' fun h'' z'' sb => ?_⟩
    have hT2 : h''.get? s.heap.objs.size = some { cls := .type "tuple", data := .seq #[x1, x2] } := (sb.2 _ (Nat.ne_of_gt hzl)).trans hT
    have new : ObjOk X.prog X.w (upd H s.heap.objs.size (.tup [x, y])) h'' s.heap.objs.size (.tup [x, y]) :=
      ⟨by show 2 ≤ sizeLine; decide, [x1, x2], .cons ru (.cons ru2 .nil), ⟨_, hT2, rfl, _, rfl⟩⟩
    have I1 : Inv X pins σ (upd H s.heap.objs.size (.tup [x, y])) { s with heap := h'', toks := tk } :=
      I.turnedNew (t' := tk) (ch := [z, TI, TO, i1, i2]) (fun c o hb q => (sb.2 c (fun q' => hb (by simp [q']))).trans (hk c o (fun q' => hb (by simp [q'])) (fun q' => hb (by simp [q'])) (fun q' => hb (by simp [q'])) (fun q' => hb (by simp [q'])) q)) hf (Nat.le_refl _) new
    refine ⟨.ref s.heap.objs.size, _, I1, rfl, ⟨_, x, y, rfl, I.hok.fresh (Nat.le_refl _), rfl, fun l hl => by rw [sqx_inj I hl hqx]; exact hx, fun l hl => by rw [sqx_inj I hl hqy]; exact hy⟩, ⟨z'', ?_, ⟨x1, x2, ?_⟩, ?_, ?_⟩, fun c hcm => ?_⟩
    · exact (sb.2 _ D.TIz).trans (hk _ _ D.TIz D.TITO D.TIi1 D.TIi2 hTI)
    · exact (sb.2 _ D.TOz).trans TO'
    · exact st1'.1.at fun o q => (sb.2 _ D.zi1.symm).trans q
    · exact st2'.1.at fun o q => (sb.2 _ D.zi2.symm).trans q
    · have hlt : c < s.heap.objs.size := by
        have e' : c = z ∨ c = TI ∨ c = TO ∨ c = i1 ∨ c = i2 := by simpa using hcm
        rcases e' with q | q | q | q | q
        · rw [q]; exact hzl
        · rw [q]; exact Heap.lt_size hTI
        · rw [q]; exact Heap.lt_size hTO
        · rw [q]; obtain ⟨_, e1, _⟩ := h1.ob; exact Heap.lt_size e1
        · rw [q]; obtain ⟨_, e2, _⟩ := h2.ob; exact Heap.lt_size e2
      rw [upd_ne (Nat.ne_of_lt hlt)]
      exact (hf c hcm).1
  done := by
    intro X hP hw hK hc i pins s σ H E I hf st hg
    subst hP hw hK
    obtain ⟨hz, hTI, ⟨x0, y0, hTO⟩, h1, h2⟩ := st
    obtain ⟨xs, ys, hqx, hqy, hle1, hle2, hend⟩ := hg
    obtain ⟨its, rv, p, _⟩ := sqx_of I hqx
    obtain ⟨its2, rv2, p2, _⟩ := sqx_of I hqy
    have l1 := rv.length
    have l2 := rv2.length
    have hh : X.A.in1.handled = none := I.ok.hd hc
    exact wpAny_pyNext_zipD2_end D (drawsX hh ka i1 a na its.toArray) (drawsX hh kb i2 b nb its2.toArray) hz hTI hTO ⟨h1, p⟩ ⟨h2, p2⟩ (by simp; omega) (by simp; omega) (by simp; omega) fun h' tk hk => ⟨rfl, I.turnedL (t' := tk) (ch := [z, TI, TO, i1, i2]) (fun c o hb q =>
      hk c o (fun q' => hb (by simp [q'])) (fun q' => hb (by simp [q'])) (fun q' => hb (by simp [q'])) (fun q' => hb (by simp [q'])) q) hf⟩
  self := fun A i s Q E st h => wpAny_pyIter_zip st.1 h
def iZipU (K : PySem.W.Frag) (ta : TA) : TI := fun σ H R => ta σ H fun vs H1 => ∃ ka kb a b xs ys, vs = [.ref a, .ref b] ∧ SqX K H1 ka a xs ∧ SqX K H1 kb b ys ∧ R (ItzX K ka kb a b) H1
theorem beginsX (k : Bool) (a : Addr) (its : Array Value) : ∃ o : Obj, Begins (.ref a) o (fun h => IsX k h a its) ∧ ∀ (h : Heap) (it : Addr), h.get? it = some o → IterX k h it a 0 := by
  cases k with
  | true => exact ⟨_, begins_tuple a its, fun h it e => ⟨_, e, rfl, rfl⟩⟩
  | false => exact ⟨_, begins_list a its, fun h it e => ⟨_, e, rfl, rfl⟩⟩
theorem pi_zipU {X : Cx} {e e2 : Expr} {ta tb : TE} {p pos tpos : Pos} {elts : List Expr} {kk : Nat} (hg : Gl X "zip") (hm : X.mg "zip" = none) (h1 : PE X e ta) (h2 : PE X e2 tb)
    (he1 : starEach [e, e2] X.env = (false, eval e X.env) :: starEach [e2] X.env := by rfl) (he2 : starEach [e2] X.env = (false, eval e2 X.env) :: starEach [] X.env := by rfl) (hpl : (backTo pos (starEach [e2] X.env)).any (·.1) = false := by rfl) :
    PI X (.Tuple elts kk tpos) (.Call (.Name "zip" p) [e, e2] [] pos) (iZipU X.K (tCons ta (tCons tb tNil))) := by
  have ha : PA X [e, e2] (tCons ta (tCons tb tNil)) := pa_cons h1 (pa_cons h2 pa_nil he2) he1
  refine ⟨fun pins s σ H R I h => ?_⟩
  refine Call_ (ld_blt I hg hm PyProof.Rows.boot_zip (PyProof.Rows.callWith_type1 (thn (ha.run pos pins s σ H _ I h) fun us s1 ⟨vs, H1, I1, r1, q1⟩ => ?_) he1 hpl))
  obtain ⟨ka, kb, a, b, xs, ys, ex, hqx, hqy, q⟩ := q1
  subst ex
  cases r1 with
  | cons r rr =>
    cases rr with
    | cons r' rr =>
      cases rr
      cases r
      cases r'
      obtain ⟨its, rv, p1, la⟩ := sqx_of I1 hqx
      obtain ⟨its2, rv2, p2, lb⟩ := sqx_of I1 hqy
      obtain ⟨o1, b1, it1⟩ := beginsX ka a its.toArray
      obtain ⟨o2, b2, it2⟩ := beginsX kb b its2.toArray
      refine zip_begins2 b1 b2 p1 p2 fun h' hz hTI hTO g1 g2 hsz hk => wpAny_pyIter_zip hz ?_
      have I2 : Inv X pins σ H1 { s1 with heap := h' } := I1.kept (t' := s1.toks) hk
      refine ⟨s1.heap.objs.size + 4, [s1.heap.objs.size + 4, s1.heap.objs.size + 2, s1.heap.objs.size + 3, s1.heap.objs.size, s1.heap.objs.size + 1], _, _, H1, rfl, I2,
        turn_zipX (zip_sep2 (fp1 := [a]) (fp2 := [b]) (by simpa using la) (by simpa using lb)) (Nat.ne_of_lt la) (Nat.ne_of_lt (Nat.lt_succ_of_lt lb)), ⟨hz, hTI, ⟨_, _, hTO⟩, it1 _ _ g1, it2 _ _ g2⟩, fun c hcm => ?_, q⟩
      have e' : c = s1.heap.objs.size + 4 ∨ c = s1.heap.objs.size + 2 ∨ c = s1.heap.objs.size + 3 ∨ c = s1.heap.objs.size ∨ c = s1.heap.objs.size + 1 := by simpa using hcm
      have hle : s1.heap.objs.size ≤ c := by
        rcases e' with z | z | z | z | z
        · rw [z]; exact Nat.le_add_right _ _
        · rw [z]; exact Nat.le_add_right _ _
        · rw [z]; exact Nat.le_add_right _ _
        · rw [z]; exact Nat.le_refl _
        · rw [z]; exact Nat.le_add_right _ _
      exact I1.fpOk hle (I1.hok.fresh hle)
def zipL : List U → List U → List U
  | x :: xs, y :: ys => .tup [x, y] :: zipL xs ys
  | _, _ => []
theorem zipL_length : ∀ (xs ys : List U), (zipL xs ys).length = min xs.length ys.length
  | [], _ => by simp [zipL]
  | _ :: _, [] => by simp [zipL]
  | x :: xs, y :: ys => by simp [zipL, zipL_length xs ys]
theorem zipL_get : ∀ {xs ys : List U} {i : Nat} {x y : U}, xs[i]? = some x → ys[i]? = some y → (zipL xs ys)[i]? = some (.tup [x, y])
  | [], _, i, x, y, h, _ => by simp at h
  | _ :: _, [], i, x, y, _, h => by simp at h
  | a :: xs, b :: ys, 0, x, y, h, h' => by simp at h h'; subst h h'; rfl
  | a :: xs, b :: ys, i + 1, x, y, h, h' => by
    have := zipL_get (xs := xs) (ys := ys) (i := i) (x := x) (y := y) (by simpa using h) (by simpa using h')
    simpa [zipL] using this
def zipO (a b : Option U) : Option (List U) := a.bind fun x => b.bind fun y => x.items.bind fun xs => y.items.map fun ys => zipL xs ys
theorem sqx_items {K : PySem.W.Frag} {x : U} {xs : List U} {v : V} {B : Hp} (h : x.items = some xs) (r : Rp B x v) : ∃ k a vs, v = .ref a ∧ Rps B xs vs ∧ ∀ H, Same B H → SqX K H k a vs := by
  cases r with
  | @lst a _ vs e r => cases h; exact ⟨false, a, vs, rfl, r, fun H s => SqL.of (s _ _ e)⟩
  | @tup a _ vs e r => cases h; exact ⟨true, a, vs, rfl, r, fun H s => SqT.of (s _ _ e)⟩
  | @frl a _ vs o e r => cases h; exact ⟨false, a, vs, rfl, r, fun H s => .inl (.inr ⟨o, s _ _ e⟩)⟩
  | _ => cases h
section
variable {σ : L2.St} {B H : Hp} {ta tb : TE} {oa ob : Option U} {K : PySem.W.Frag}
theorem ei_zip (ha : EvO ta σ B H oa) (hb : EvO tb σ B H ob) : EvI (iZipU K (tCons ta (tCons tb tNil))) σ B H (zipO oa ob) := fun zs e B1 H1 g R q => by
  obtain ⟨x, ex, e⟩ := bind_some e
  obtain ⟨y, ey, e⟩ := bind_some e
  obtain ⟨xs, exs, e⟩ := bind_some e
  obtain ⟨ys, eys, e⟩ := map_some e
  subst e
  refine ha x ex B1 H1 g _ fun v B2 H2 g2 r2 => hb y ey B2 H2 (g.trans g2) _ fun w B3 H3 g3 r3 => ?_
  obtain ⟨ka, a, vs, rfl, ra, sa⟩ := sqx_items (K := K) exs (r2.up g3)
  obtain ⟨kb, b, ws, rfl, rb, sb⟩ := sqx_items (K := K) eys r3
  refine ⟨ka, kb, a, b, vs, ws, rfl, sa H3 g3.bh, sb H3 g3.bh, q _ B3 H3 (g2.trans g3) ?_⟩
  have l1 := ra.length
  have l2 := rb.length
  have hl := zipL_length xs ys
  refine ⟨fun i H' hi s => ?_, fun H' s => ?_, fun i H' v H'' B' hi s1 s2 y => ?_⟩
  · have h1 : i < vs.length := by omega
    have h2 : i < ws.length := by omega
    exact ⟨vs, ws, vs[i], ws[i], sa H' s, sb H' s, by simp [h1], by simp [h2]⟩
  · rw [hl]
    exact ⟨vs, ws, sa H' s, sb H' s, by omega, by omega, by omega⟩
  · obtain ⟨T, x1, y1, e1, e2, e3, f1, f2⟩ := y
    subst e1 e3
    obtain ⟨u1, eu1, ru1⟩ := ra.back (f1 vs (sa H' (s1.trans s2)))
    obtain ⟨u2, eu2, ru2⟩ := rb.back (f2 ws (sb H' (s1.trans s2)))
    exact ⟨_, _, Go.new s2 e2, zipL_get eu1 eu2, .tup upd_same ((Rps.cons (ru1.kp (Kp.of s1)) (.cons (ru2.kp (Kp.of s1)) .nil)).new s2 e2)⟩
end
end Dn
set_option Elab.async false
set_option linter.all false
set_option maxRecDepth 100000
set_option maxHeartbeats 2000000
namespace Dn
open PySem L2
variable [CTab]
/-! ### steps that change one's own objects -/
structure Gs (M : Addr → Prop) (B H B2 H2 : Hp) : Prop where
  h : ∀ a o, H a = some o → ¬ M a → H2 a = some o
  n : ∀ a, H2 a = none → H a = none
  b : Same B B2
  bh : Same B2 H2
  fr : ∀ a o, B2 a = some o → B a = some o ∨ H a = none ∨ M a
section
variable {M M' : Addr → Prop} {B H B1 H1 B2 H2 B3 H3 : Hp}
theorem Gs.of (g : Go B H B2 H2) : Gs M B H B2 H2 := ⟨fun a o e _ => g.h a o e, fun a e => g.h.free e, g.b, g.bh, fun a o e => (g.fr a o e).imp_right .inl⟩
theorem Gs.go (g : Gs (fun _ => False) B H B2 H2) : Go B H B2 H2 := ⟨fun a o e => g.h a o e id, g.b, g.bh, fun a o e => by
  rcases g.fr a o e with e | e | e
  · exact .inl e
  · exact .inr e
  · exact e.elim⟩
theorem Gs.refl (s : Same B H) : Gs M B H B H := .of (Go.refl s)
theorem Gs.trans (x : Gs M B H B2 H2) (y : Gs M B2 H2 B3 H3) : Gs M B H B3 H3 :=
  ⟨fun a o e hm => y.h a o (x.h a o e hm) hm, fun a e => x.n a (y.n a e), x.b.trans y.b, y.bh, fun a o e => by
    rcases y.fr a o e with e | e | e
    · exact x.fr a o e
    · exact .inr (.inl (x.n a e))
    · exact .inr (.inr e)⟩
theorem Gs.mono (x : Gs M B H B2 H2) (h : ∀ a, M a → M' a) : Gs M' B H B2 H2 := ⟨fun a o e hm => x.h a o e fun z => hm (h a z), x.n, x.b, x.bh, fun a o e => by
    rcases x.fr a o e with e | e | e
    · exact .inl e
    · exact .inr (.inl e)
    · exact .inr (.inr (h a e))⟩
theorem Gs.noB {p : Addr} {o : HO} (g : Gs M B H B2 H2) (hb : B p = none) (hp : H p = some o) (hM : ¬ M p) : B2 p = none := by
  cases q : B2 p with
  | none => rfl
  | some u =>
    rcases g.fr p u q with z | z | z
    · rw [hb] at z; cases z
    · rw [hp] at z; cases z
    · exact absurd z hM
theorem At.trs (x : At B B1 H1) (y : Gs M B1 H1 B2 H2) : At B B2 H2 := ⟨x.b.trans y.b, y.bh⟩
theorem Gs.at (g : Gs M B H B2 H2) : At B B2 H2 := ⟨g.b, g.bh⟩
/-- what changes below the base: what the base lets, or what is not there yet -/
theorem Gs.base {B0 H0 : Hp} (x : Gs M B0 H0 B H) (y : Gs M' B H B2 H2) (h : ∀ a, M' a → M a ∨ H0 a = none) : Gs M B0 H0 B2 H2 :=
  ⟨fun a o e hm => y.h a o (x.h a o e hm) fun z => by
      rcases h a z with z | z
      · exact hm z
      · (rw [e] at z; exact nomatch z), fun a e => x.n a (y.n a e), x.b.trans y.b, y.bh, fun a o e => by
    rcases y.fr a o e with e | e | e
    · exact x.fr a o e
    · exact .inr (.inl (x.n a e))
    · rcases h a e with e | e
      · exact .inr (.inr e)
      · exact .inr (.inl e)⟩
end
def U.own : U → Bool
  | .frl _ | .dic _ | .dit _ => true
  | _ => false
/-- one's own object at p -/
def OwnAt (B H : Hp) (p : Addr) : U → Prop
  | .frl xs => ∃ vs, H p = some (.lst vs) ∧ Rps B xs vs
  | .dic kvs => ∃ es, H p = some (.dK es) ∧ Rpk B kvs es
  | .dit kvs => ∃ es, H p = some (.dT es) ∧ Rpt B kvs es
  | _ => False
theorem OwnAt.own {B H : Hp} {p : Addr} {u : U} (h : OwnAt B H p u) : u.own = true := by
  cases u <;> first | rfl | exact h.elim
theorem OwnAt.ex {B H : Hp} {p : Addr} {u : U} (h : OwnAt B H p u) : ∃ o, H p = some o := by
  cases u with
  | frl xs => obtain ⟨_, e, _⟩ := h; exact ⟨_, e⟩
  | dic xs => obtain ⟨_, e, _⟩ := h; exact ⟨_, e⟩
  | dit xs => obtain ⟨_, e, _⟩ := h; exact ⟨_, e⟩
  | _ => exact h.elim
theorem OwnAt.up {B H B2 H2 : Hp} {p : Addr} {u : U} (h : OwnAt B H p u) (e : ∀ o, H p = some o → H2 p = some o) (s : Same B B2) : OwnAt B2 H2 p u := by
  cases u with
  | frl xs => obtain ⟨vs, h1, r⟩ := h; exact ⟨vs, e _ h1, r.kp (Kp.of s)⟩
  | dic xs => obtain ⟨vs, h1, r⟩ := h; exact ⟨vs, e _ h1, r.kp (Kp.of s)⟩
  | dit xs => obtain ⟨vs, h1, r⟩ := h; exact ⟨vs, e _ h1, r.kp (Kp.of s)⟩
  | _ => exact h.elim
/-- .non: it is taken away, nothing is said -/
structure OwP (M : Addr → Prop) (B H : Hp) (p : Addr) (u : U) : Prop where
  m : M p
  ex : ∃ o, H p = some o
  at_ : u = .non ∨ (B p = none ∧ OwnAt B H p u)
theorem OwP.own {M : Addr → Prop} {B H : Hp} {p : Addr} {u : U} (w : OwP M B H p u) (h : u.own = true) : B p = none ∧ OwnAt B H p u := by
  rcases w.at_ with e | e
  · subst e; cases h
  · exact e
structure Ows (M : Addr → Prop) (B H : Hp) (ps : List Addr) (us : List U) : Prop where
  len : us.length = ps.length
  nd : ∀ (i j : Nat) p, ps[i]? = some p → ps[j]? = some p → i = j
  at_ : ∀ (j : Nat) p u, ps[j]? = some p → us[j]? = some u → OwP M B H p u
abbrev inP (ps : List Addr) : Addr → Prop := fun a => a ∈ ps
section
variable {M : Addr → Prop} {B H B1 H1 B2 H2 : Hp} {ps : List Addr} {us : List U}
theorem ows_nil : Ows M B H [] [] := ⟨rfl, fun i j p h => by simp at h, fun j p u h => by simp at h⟩
theorem Ows.get (w : Ows M B H ps us) {j : Nat} {u : U} (h : us[j]? = some u) : ∃ p, ps[j]? = some p ∧ OwP M B H p u := by
  have hl : j < ps.length := by rw [← w.len]; exact (List.getElem?_eq_some_iff.mp h).1
  exact ⟨ps[j], by simp [hl], w.at_ j _ u (by simp [hl]) h⟩
theorem Ows.ofMem (w : Ows M B H ps us) {p : Addr} (h : p ∈ ps) : ∃ (j : Nat) (u : U), ps[j]? = some p ∧ us[j]? = some u ∧ OwP M B H p u := by
  obtain ⟨j, hj, e⟩ := List.getElem_of_mem h
  have hl : j < us.length := by rw [w.len]; exact hj
  exact ⟨j, us[j], by simp [hj, e], by simp [hl], w.at_ j p _ (by simp [hj, e]) (by simp [hl])⟩
theorem Ows.exs (w : Ows M B H ps us) {p : Addr} (h : p ∈ ps) : ∃ o, H p = some o := by
  obtain ⟨j, u, _, _, q⟩ := w.ofMem h
  exact q.ex
theorem Ows.ms (w : Ows M B H ps us) {p : Addr} (h : p ∈ ps) : M p := by
  obtain ⟨j, u, _, _, q⟩ := w.ofMem h
  exact q.m
theorem Ows.fresh (w : Ows M B H ps us) {p : Addr} (h : H p = none) : p ∉ ps := fun z => by
  obtain ⟨o, e⟩ := w.exs z
  rw [h] at e; cases e
/-- nothing of one's own has changed -/
theorem Ows.keep (w : Ows M B H ps us) (e : ∀ p ∈ ps, ∀ o, H p = some o → H2 p = some o) (s : Same B B2) (hb : ∀ p ∈ ps, B p = none → B2 p = none) : Ows M B2 H2 ps us :=
  ⟨w.len, w.nd, fun j p u hp hu => by
    have hm : p ∈ ps := List.mem_of_getElem? hp
    obtain ⟨q1, ⟨o, q2⟩, q3⟩ := w.at_ j p u hp hu
    refine ⟨q1, ⟨o, e p hm o q2⟩, ?_⟩
    rcases q3 with q3 | ⟨q3, q4⟩
    · exact .inl q3
    · exact .inr ⟨hb p hm q3, q4.up (e p hm) s⟩⟩
theorem Ows.go (w : Ows M B H ps us) (g : Go B H B2 H2) : Ows M B2 H2 ps us := w.keep (fun p _ o e => g.h p o e) g.b fun p hp hb => by
  obtain ⟨o, e⟩ := w.exs hp
  exact g.noB hb e
theorem Ows.set (w : Ows M B H ps us) {j : Nat} {p : Addr} {u : U} (hp : ps[j]? = some p) (e : ∀ q ∈ ps, q ≠ p → ∀ o, H q = some o → H2 q = some o) (s : Same B B2) (hb : ∀ q ∈ ps, q ≠ p → B q = none → B2 q = none) (n : OwP M B2 H2 p u) : Ows M B2 H2 ps (us.set j u) := by
  have hj : j < us.length := by rw [w.len]; exact (List.getElem?_eq_some_iff.mp hp).1
  refine ⟨by rw [List.length_set, w.len], w.nd, fun i q v hq hv => ?_⟩
  by_cases hij : i = j
  · subst hij
    rw [hp] at hq; cases hq
    rw [List.getElem?_set_self hj] at hv; cases hv
    exact n
  · rw [List.getElem?_set_ne (Ne.symm hij)] at hv
    have hm : q ∈ ps := List.mem_of_getElem? hq
    have hne : q ≠ p := fun z => hij (w.nd i j q hq (by rw [z]; exact hp))
    obtain ⟨q1, ⟨o, q2⟩, q3⟩ := w.at_ i q v hq hv
    refine ⟨q1, ⟨o, e q hm hne o q2⟩, ?_⟩
    rcases q3 with q3 | ⟨q3, q4⟩
    · exact .inl q3
    · exact .inr ⟨hb q hm hne q3, q4.up (e q hm hne) s⟩
/-- one more -/
theorem Ows.add (w : Ows M B H ps us) {p : Addr} {u : U} (hn : p ∉ ps) (n : OwP M B H p u) : Ows M B H (ps ++ [p]) (us ++ [u]) := by
  refine ⟨by simp [w.len], ?_, fun j q v hq hv => ?_⟩
  · intro a b q ha hb
    have key : ∀ (a : Nat), (ps ++ [p])[a]? = some q → (a < ps.length ∧ ps[a]? = some q) ∨ (a = ps.length ∧ q = p) := fun a ha => by
      by_cases hj : a < ps.length
      · rw [List.getElem?_append_left hj] at ha
        exact .inl ⟨hj, ha⟩
      · rw [List.getElem?_append_right (by omega)] at ha
        have e : a - ps.length = 0 := by
          have := (List.getElem?_eq_some_iff.mp ha).1
          simp at this; omega
        rw [e] at ha
        cases ha
        exact .inr ⟨by omega, rfl⟩
    rcases key a ha with ⟨_, h1⟩ | ⟨h1, h1'⟩
    · rcases key b hb with ⟨_, h2⟩ | ⟨h2, h2'⟩
      · exact w.nd a b q h1 h2
      · exact absurd (List.mem_of_getElem? h1) (h2' ▸ hn)
    · rcases key b hb with ⟨_, h2⟩ | ⟨h2, h2'⟩
      · exact absurd (List.mem_of_getElem? h2) (h1' ▸ hn)
      · omega
  · by_cases hj : j < ps.length
    · rw [List.getElem?_append_left hj] at hq
      rw [List.getElem?_append_left (by rw [w.len]; exact hj)] at hv
      exact w.at_ j q v hq hv
    · rw [List.getElem?_append_right (by omega)] at hq
      rw [List.getElem?_append_right (by rw [w.len]; omega)] at hv
      rw [w.len] at hv
      have e : j - ps.length = 0 := by
        have := (List.getElem?_eq_some_iff.mp hq).1
        simp at this; omega
      rw [e] at hq hv
      cases hq; cases hv
      exact n
/-- another one in its place -/
theorem Ows.swap (w : Ows M B H ps us) {j : Nat} {p : Addr} {u : U} (hj : j < ps.length) (hn : p ∉ ps) (n : OwP M B H p u) : Ows M B H (ps.set j p) (us.set j u) := by
  refine ⟨by simp [w.len], ?_, fun i q v hq hv => ?_⟩
  · intro a b q ha hb
    by_cases e1 : a = j
    · by_cases e2 : b = j
      · omega
      · subst e1
        rw [List.getElem?_set_self hj] at ha
        rw [List.getElem?_set_ne (Ne.symm e2)] at hb
        cases ha
        exact absurd (List.mem_of_getElem? hb) hn
    · by_cases e2 : b = j
      · subst e2
        rw [List.getElem?_set_self hj] at hb
        rw [List.getElem?_set_ne (Ne.symm e1)] at ha
        cases hb
        exact absurd (List.mem_of_getElem? ha) hn
      · rw [List.getElem?_set_ne (Ne.symm e1)] at ha
        rw [List.getElem?_set_ne (Ne.symm e2)] at hb
        exact w.nd a b q ha hb
  · by_cases e1 : i = j
    · subst e1
      rw [List.getElem?_set_self hj] at hq
      rw [List.getElem?_set_self (by rw [w.len]; exact hj)] at hv
      cases hq; cases hv
      exact n
    · rw [List.getElem?_set_ne (Ne.symm e1)] at hq hv
      exact w.at_ i q v hq hv
theorem Ows.take (w : Ows M B H ps us) (n : Nat) : Ows M B H (ps.take n) (us.take n) := by
  refine ⟨by simp [w.len], fun i j p h1 h2 => ?_, fun j p u hp hu => ?_⟩
  · rw [List.getElem?_take] at h1 h2
    split at h1
    · split at h2
      · exact w.nd i j p h1 h2
      · cases h2
    · cases h1
  rw [List.getElem?_take] at hp hu
  split at hp
  · rename_i hj
    rw [if_pos hj] at hu
    exact w.at_ j p u hp hu
  · cases hp
end
/-! ### the state: what one's own objects have in them -/
abbrev SM (α : Type) := List U → Option (α × List U)
def pureS {α : Type} (o : Option α) : SM α := fun us => o.map fun x => (x, us)
def bindS {α β : Type} (F : SM α) (k : α → SM β) : SM β := fun us => (F us).bind fun r => k r.1 r.2
theorem pureS_some {α : Type} {o : Option α} {us : List U} {x : α} {us' : List U} (h : pureS o us = some (x, us')) : o = some x ∧ us' = us := by
  obtain ⟨y, e, h⟩ := map_some h
  cases h
  exact ⟨e, rfl⟩
theorem bindS_some {α β : Type} {F : SM α} {k : α → SM β} {us : List U} {z : β × List U} (h : bindS F k us = some z) : ∃ x us1, F us = some (x, us1) ∧ k x us1 = some z := by
  obtain ⟨⟨x, us1⟩, e, h⟩ := bind_some h
  exact ⟨x, us1, e, h⟩
section
variable (M : Addr → Prop) (ps : List Addr) (σ : St) (B : Hp)
def EvS (te : TE) (F : SM U) : Prop :=
  ∀ us z us', F us = some (z, us') → ∀ B1 H1, At B B1 H1 → Ows M B1 H1 ps us → ∀ Q : VK, (∀ v B2 H2, Gs (inP ps) B1 H1 B2 H2 → Rp B2 z v → Ows M B2 H2 ps us' → Q v H2) → te σ H1 Q
def EvTS (tt : TT) (F : SM Bool) : Prop :=
  ∀ us z us', F us = some (z, us') → ∀ B1 H1, At B B1 H1 → Ows M B1 H1 ps us → ∀ Q : Bool → Hp → Prop, (∀ B2 H2, Gs (inP ps) B1 H1 B2 H2 → Ows M B2 H2 ps us' → Q z H2) → tt σ H1 Q
def EvAS (ta : TA) (F : SM (List U)) : Prop :=
  ∀ us z us', F us = some (z, us') → ∀ B1 H1, At B B1 H1 → Ows M B1 H1 ps us → ∀ Q : List V → Hp → Prop, (∀ v B2 H2, Gs (inP ps) B1 H1 B2 H2 → Rps B2 z v → Ows M B2 H2 ps us' → Q v H2) → ta σ H1 Q
def EvPS (tp : TO) (F : SM (Option Int)) : Prop :=
  ∀ us z us', F us = some (z, us') → ∀ B1 H1, At B B1 H1 → Ows M B1 H1 ps us → ∀ Q : Option Int → Hp → Prop, (∀ B2 H2, Gs (inP ps) B1 H1 B2 H2 → Ows M B2 H2 ps us' → Q z H2) → tp σ H1 Q
def EvIS (wi : TI) (F : SM (List U)) : Prop :=
  ∀ us xs us', F us = some (xs, us') → ∀ B1 H1, At B B1 H1 → Ows M B1 H1 ps us → ∀ R : It → Hp → Prop, (∀ J B2 H2, Gs (inP ps) B1 H1 B2 H2 → WalkU J xs B2 → Ows M B2 H2 ps us' → R J H2) → wi σ H1 R
/-- a new object of one's own -/
def EvN (te : TE) (F : SM U) : Prop :=
  ∀ us u us', F us = some (u, us') → ∀ B1 H1, At B B1 H1 → Ows M B1 H1 ps us → ∀ Q : VK, (∀ p B2 H2, Gs (inP ps) B1 H1 B2 H2 → H1 p = none → B2 p = none → OwnAt B2 H2 p u → Ows M B2 H2 ps us' → Q (.ref p) H2) → te σ H1 Q
end
section
variable {M : Addr → Prop} {ps : List Addr} {σ : St} {B H : Hp} {ta tb tc te : TE} {t u : TT} {tl tr : TA} {F G : SM U} {K : PySem.W.Frag}
theorem es_of {o : Option U} (h : EvO te σ B H o) : EvS M ps σ B te (pureS o) := fun us z us' e B1 H1 g w Q q => by
  obtain ⟨ee, rfl⟩ := pureS_some e; clear e; have e := ee; clear ee
  exact h z e B1 H1 g Q fun v B2 H2 g2 r => q v B2 H2 (.of g2) r (w.go g2)
theorem ets_of {o : Option Bool} (h : EvT t σ B H o) : EvTS M ps σ B t (pureS o) := fun us z us' e B1 H1 g w Q q => by
  obtain ⟨ee, rfl⟩ := pureS_some e; clear e; have e := ee; clear ee
  exact h z e B1 H1 g Q fun B2 H2 g2 => q B2 H2 (.of g2) (w.go g2)
theorem eas_of {o : Option (List U)} (h : EvA tl σ B H o) : EvAS M ps σ B tl (pureS o) := fun us z us' e B1 H1 g w Q q => by
  obtain ⟨ee, rfl⟩ := pureS_some e; clear e; have e := ee; clear ee
  exact h z e B1 H1 g Q fun v B2 H2 g2 r => q v B2 H2 (.of g2) r (w.go g2)
theorem eps_of {tp : TO} {o : Option (Option Int)} (h : EvP tp σ B H o) : EvPS M ps σ B tp (pureS o) := fun us z us' e B1 H1 g w Q q => by
  obtain ⟨ee, rfl⟩ := pureS_some e; clear e; have e := ee; clear ee
  exact h z e B1 H1 g Q fun B2 H2 g2 => q B2 H2 (.of g2) (w.go g2)
theorem eis_of {wi : TI} {o : Option (List U)} (h : EvI wi σ B H o) : EvIS M ps σ B wi (pureS o) := fun us z us' e B1 H1 g w Q q => by
  obtain ⟨ee, rfl⟩ := pureS_some e; clear e; have e := ee; clear ee
  exact h z e B1 H1 g Q fun J B2 H2 g2 r => q J B2 H2 (.of g2) r (w.go g2)
/-- nothing of one's own about: what it comes to, plainly -/
theorem eo_es (h : EvS (fun _ => True) [] σ B te F) : EvO te σ B H ((F []).map Prod.fst) := fun z e B1 H1 g Q q => by
  obtain ⟨⟨z', us'⟩, e1, e⟩ := map_some e
  subst e
  exact h [] z' us' e1 B1 H1 g ows_nil Q fun v B2 H2 g2 r _ => q v B2 H2 (Gs.go (g2.mono fun a ha => by simp [inP] at ha)) r
def opS (f : U → U → Option U) (F G : SM U) : SM U := bindS F fun x => bindS G fun y => pureS (f x y)
theorem es_op2 {r : R2} {f : U → U → Option U} (hr : RV r f) (ha : EvS M ps σ B ta F) (hb : EvS M ps σ B tb G) : EvS M ps σ B (tOp r ta tb) (opS f F G) := fun us z us' e B1 H1 g w Q q => by
  obtain ⟨x, us1, ex, e⟩ := bindS_some e
  obtain ⟨y, us2, ey, e⟩ := bindS_some e
  obtain ⟨ee, rfl⟩ := pureS_some e; clear e; have e := ee; clear ee
  exact ha _ _ _ ex B1 H1 g w _ fun v B2 H2 g2 r2 w2 => hb _ _ _ ey B2 H2 (g.trs g2) w2 _ fun v' B3 H3 g3 r3 w3 => hr x y z e v v' B3 H3 g3.bh (r2.upA g3.at) r3 Q fun v2 B4 H4 g4 r4 => q v2 B4 H4 ((g2.trans g3).trans (.of g4)) r4 (w3.go g4)
def op1S (f : U → Option U) (F : SM U) : SM U := bindS F fun x => pureS (f x)
theorem es_op1 {r : V → Hp → VK → Prop} {f : U → Option U} (hr : RU r f) (ha : EvS M ps σ B ta F) : EvS M ps σ B (tUn r ta) (op1S f F) := fun us z us' e B1 H1 g w Q q => by
  obtain ⟨x, us1, ex, e⟩ := bindS_some e
  obtain ⟨ee, rfl⟩ := pureS_some e; clear e; have e := ee; clear ee
  exact ha _ _ _ ex B1 H1 g w _ fun v B2 H2 g2 r2 w2 => hr x z e v B2 H2 g2.bh r2 Q fun v2 B4 H4 g4 r4 => q v2 B4 H4 (g2.trans (.of g4)) r4 (w2.go g4)
def callS (f : List U → Option U) (F : SM (List U)) : SM U := bindS F fun x => pureS (f x)
theorem es_cb {r : List V → Hp → VK → Prop} {f : List U → Option U} {F : SM (List U)} (hr : RC r f) (ha : EvAS M ps σ B tl F) : EvS M ps σ B (tCB r tl) (callS f F) := fun us z us' e B1 H1 g w Q q => by
  obtain ⟨x, us1, ex, e⟩ := bindS_some e
  obtain ⟨ee, rfl⟩ := pureS_some e; clear e; have e := ee; clear ee
  exact ha _ _ _ ex B1 H1 g w _ fun v B2 H2 g2 r2 w2 => hr x z e v B2 H2 g2.bh r2 Q fun v2 B4 H4 g4 r4 => q v2 B4 H4 (g2.trans (.of g4)) r4 (w2.go g4)
theorem es_call {m : List U → Option U} {E : XK} {F : SM (List U)} (ha : EvAS M ps σ B tl F) : EvS M ps σ B (tCall (spU m) [] E tl) (callS m F) := fun us z us' e B1 H1 g w Q q => by
  obtain ⟨x, us1, ex, e⟩ := bindS_some e
  obtain ⟨ee, rfl⟩ := pureS_some e; clear e; have e := ee; clear ee
  refine ha _ _ _ ex B1 H1 g w _ fun vs B2 H2 g2 r w2 => ?_
  show spU m (vs ++ []) H2 Q E
  rw [List.append_nil]
  exact ⟨B2, x, z, g2.bh, r, e, fun v B3 H3 g3 r3 => q v B3 H3 (g2.trans (.of g3)) r3 (w2.go g3)⟩
def consS (F : SM U) (G : SM (List U)) : SM (List U) := bindS F fun x => bindS G fun r => pureS (some (x :: r))
theorem eas_nil : EvAS M ps σ B tNil (pureS (some [])) := eas_of (H := B) ea_nil
theorem eas_cons {G : SM (List U)} (h : EvS M ps σ B ta F) (hr : EvAS M ps σ B tr G) : EvAS M ps σ B (tCons ta tr) (consS F G) := fun us z us' e B1 H1 g w Q q => by
  obtain ⟨x, us1, ex, e⟩ := bindS_some e
  obtain ⟨r, us2, er, e⟩ := bindS_some e
  obtain ⟨ee, rfl⟩ := pureS_some e; clear e; have e := ee; clear ee
  cases e
  exact h _ _ _ ex B1 H1 g w _ fun v B2 H2 g2 r2 w2 => hr _ _ _ er B2 H2 (g.trs g2) w2 _ fun vs B3 H3 g3 r3 w3 => q _ B3 H3 (g2.trans g3) (.cons (r2.upA g3.at) r3) w3
def tupS (F : SM (List U)) : SM U := bindS F fun xs => pureS (if xs.length ≤ lim then some (.tup xs) else none)
def lstS (F : SM (List U)) : SM U := bindS F fun xs => pureS (if xs.length ≤ lim then some (.lst xs) else none)
theorem es_tup {F : SM (List U)} (h : EvAS M ps σ B tl F) : EvS M ps σ B (tTup tl) (tupS F) := fun us z us' e B1 H1 g w Q q => by
  obtain ⟨x, us1, ex, e⟩ := bindS_some e
  obtain ⟨ee, rfl⟩ := pureS_some e; clear e; have e := ee; clear ee
  split at e
  · rename_i hl
    cases e
    exact h _ _ _ ex B1 H1 g w _ fun vs B2 H2 g2 r w2 => ⟨by rw [r.length]; exact lim_size hl, fun p hp => q _ _ _ (g2.trans (.of (Go.new g2.bh hp))) (.tup upd_same (r.new g2.bh hp)) (w2.go (Go.new g2.bh hp))⟩
  · cases e
theorem es_lst {F : SM (List U)} (h : EvAS M ps σ B tl F) : EvS M ps σ B (tLst tl) (lstS F) := fun us z us' e B1 H1 g w Q q => by
  obtain ⟨x, us1, ex, e⟩ := bindS_some e
  obtain ⟨ee, rfl⟩ := pureS_some e; clear e; have e := ee; clear ee
  split at e
  · rename_i hl
    cases e
    exact h _ _ _ ex B1 H1 g w _ fun vs B2 H2 g2 r w2 => ⟨by rw [r.length]; exact lim_size hl, fun p hp => q _ _ _ (g2.trans (.of (Go.new g2.bh hp))) (.lst upd_same (r.new g2.bh hp)) (w2.go (Go.new g2.bh hp))⟩
  · cases e
/-! tests -/
def testS (F : SM U) : SM Bool := bindS F fun x => pureS x.asB
theorem ets_test (h : EvS M ps σ B te F) : EvTS M ps σ B (tTest te) (testS F) := fun us z us' e B1 H1 g w _ q => by
  obtain ⟨x, us1, ex, e⟩ := bindS_some e
  obtain ⟨ee, rfl⟩ := pureS_some e; clear e; have e := ee; clear ee
  cases x <;> cases e
  exact h _ _ _ ex B1 H1 g w _ fun v B2 H2 g2 r w2 => by cases r; exact ⟨_, rfl, q B2 H2 g2 w2⟩
theorem ets_B (h : EvS M ps σ B te F) : EvTS M ps σ B (tB te) (testS F) := fun us z us' e B1 H1 g w _ q => by
  obtain ⟨x, us1, ex, e⟩ := bindS_some e
  obtain ⟨ee, rfl⟩ := pureS_some e; clear e; have e := ee; clear ee
  cases x <;> cases e
  exact h _ _ _ ex B1 H1 g w _ fun v B2 H2 g2 r w2 => by cases r; exact ⟨_, rfl, q B2 H2 g2 w2⟩
def andS (F G : SM Bool) : SM Bool := bindS F fun x => if x = true then G else pureS (some false)
def orS (F G : SM Bool) : SM Bool := bindS F fun x => if x = true then pureS (some true) else G
def notS (F : SM Bool) : SM Bool := bindS F fun x => pureS (some (!x))
theorem ets_and {F G : SM Bool} (h1 : EvTS M ps σ B t F) (h2 : EvTS M ps σ B u G) : EvTS M ps σ B (tAnd t u) (andS F G) := fun us z us' e B1 H1 g w Q q => by
  obtain ⟨x, us1, ex, e⟩ := bindS_some e
  refine h1 _ _ _ ex B1 H1 g w _ fun B2 H2 g2 w2 => ?_
  cases x with
  | true => exact h2 _ _ _ e B2 H2 (g.trs g2) w2 Q fun B3 H3 g3 w3 => q B3 H3 (g2.trans g3) w3
  | false =>
    obtain ⟨ee, rfl⟩ := pureS_some (show pureS (some false) us1 = _ from e); clear e; have e := ee; clear ee
    cases e
    exact q B2 H2 g2 w2
theorem ets_or {F G : SM Bool} (h1 : EvTS M ps σ B t F) (h2 : EvTS M ps σ B u G) : EvTS M ps σ B (tOr t u) (orS F G) := fun us z us' e B1 H1 g w Q q => by
  obtain ⟨x, us1, ex, e⟩ := bindS_some e
  refine h1 _ _ _ ex B1 H1 g w _ fun B2 H2 g2 w2 => ?_
  cases x with
  | false => exact h2 _ _ _ e B2 H2 (g.trs g2) w2 Q fun B3 H3 g3 w3 => q B3 H3 (g2.trans g3) w3
  | true =>
    obtain ⟨ee, rfl⟩ := pureS_some (show pureS (some true) us1 = _ from e); clear e; have e := ee; clear ee
    cases e
    exact q B2 H2 g2 w2
theorem ets_not {F : SM Bool} (h1 : EvTS M ps σ B t F) : EvTS M ps σ B (tNot t) (notS F) := fun us z us' e B1 H1 g w _ q => by
  obtain ⟨x, us1, ex, e⟩ := bindS_some e
  obtain ⟨ee, rfl⟩ := pureS_some e; clear e; have e := ee; clear ee
  cases e
  exact h1 _ _ _ ex B1 H1 g w _ fun B2 H2 g2 w2 => q B2 H2 g2 w2
def andVS (F G : SM U) : SM U := bindS (testS F) fun x => if x = true then G else pureS (some (.bl false))
def orVS (F G : SM U) : SM U := bindS (testS F) fun x => if x = true then pureS (some (.bl true)) else G
def notVS (F : SM U) : SM U := bindS (testS F) fun x => pureS (some (.bl (!x)))
theorem testS_some {us us1 : List U} {x : Bool} (h : testS F us = some (x, us1)) : F us = some (.bl x, us1) := by
  obtain ⟨y, us2, ey, h⟩ := bindS_some h
  obtain ⟨h, rfl⟩ := pureS_some h
  cases y <;> cases h
  exact ey
theorem es_and (h1 : EvS M ps σ B ta F) (h2 : EvS M ps σ B tb G) : EvS M ps σ B (tAndV ta tb) (andVS F G) := fun us z us' e B1 H1 g w Q q => by
  obtain ⟨x, us1, ex, e⟩ := bindS_some e
  refine h1 _ _ _ (testS_some ex) B1 H1 g w _ fun v B2 H2 g2 r w2 => ?_
  cases r
  refine ⟨x, rfl, ?_⟩
  cases x with
  | true => exact h2 _ _ _ e B2 H2 (g.trs g2) w2 Q fun v B3 H3 g3 r3 w3 => q v B3 H3 (g2.trans g3) r3 w3
  | false =>
    obtain ⟨ee, rfl⟩ := pureS_some (show pureS (some (U.bl false)) us1 = _ from e); clear e; have e := ee; clear ee
    cases e
    exact q _ B2 H2 g2 (.bl false) w2
theorem es_or (h1 : EvS M ps σ B ta F) (h2 : EvS M ps σ B tb G) : EvS M ps σ B (tOrV ta tb) (orVS F G) := fun us z us' e B1 H1 g w Q q => by
  obtain ⟨x, us1, ex, e⟩ := bindS_some e
  refine h1 _ _ _ (testS_some ex) B1 H1 g w _ fun v B2 H2 g2 r w2 => ?_
  cases r
  refine ⟨x, rfl, ?_⟩
  cases x with
  | false => exact h2 _ _ _ e B2 H2 (g.trs g2) w2 Q fun v B3 H3 g3 r3 w3 => q v B3 H3 (g2.trans g3) r3 w3
  | true =>
    obtain ⟨ee, rfl⟩ := pureS_some (show pureS (some (U.bl true)) us1 = _ from e); clear e; have e := ee; clear ee
    cases e
    exact q _ B2 H2 g2 (.bl true) w2
theorem es_not (h1 : EvS M ps σ B ta F) : EvS M ps σ B (tNotV ta) (notVS F) := fun us z us' e B1 H1 g w Q q => by
  obtain ⟨x, us1, ex, e⟩ := bindS_some e
  obtain ⟨ee, rfl⟩ := pureS_some e; clear e; have e := ee; clear ee
  cases e
  refine h1 _ _ _ (testS_some ex) B1 H1 g w _ fun v B2 H2 g2 r w2 => ?_
  cases r
  exact ⟨x, rfl, q _ B2 H2 g2 (.bl _) w2⟩
def ifS {α : Type} (c : SM Bool) (F G : SM α) : SM α := bindS c fun x => if x = true then F else G
theorem es_if {c : SM Bool} (h : EvTS M ps σ B t c) (h1 : EvS M ps σ B ta F) (h2 : EvS M ps σ B tb G) : EvS M ps σ B (tIf t ta tb) (ifS c F G) := fun us z us' e B1 H1 g w Q q => by
  obtain ⟨x, us1, ex, e⟩ := bindS_some e
  refine h _ _ _ ex B1 H1 g w _ fun B2 H2 g2 w2 => ?_
  cases x with
  | true => exact h1 _ _ _ e B2 H2 (g.trs g2) w2 Q fun v B3 H3 g3 r3 w3 => q v B3 H3 (g2.trans g3) r3 w3
  | false => exact h2 _ _ _ e B2 H2 (g.trs g2) w2 Q fun v B3 H3 g3 r3 w3 => q v B3 H3 (g2.trans g3) r3 w3
theorem en_if {c : SM Bool} (h : EvTS M ps σ B t c) (h1 : EvN M ps σ B ta F) (h2 : EvN M ps σ B tb G) : EvN M ps σ B (tIf t ta tb) (ifS c F G) := fun us z us' e B1 H1 g w Q q => by
  obtain ⟨x, us1, ex, e⟩ := bindS_some e
  refine h _ _ _ ex B1 H1 g w _ fun B2 H2 g2 w2 => ?_
  cases x with
  | true => exact h1 _ _ _ e B2 H2 (g.trs g2) w2 Q fun p B3 H3 g3 n3 b3 o3 w3 => q p B3 H3 (g2.trans g3) (g2.n p n3) b3 o3 w3
  | false => exact h2 _ _ _ e B2 H2 (g.trs g2) w2 Q fun p B3 H3 g3 n3 b3 o3 w3 => q p B3 H3 (g2.trans g3) (g2.n p n3) b3 o3 w3
/-! what is iterated over -/
def itemsS (F : SM U) : SM (List U) := bindS F fun x => pureS x.items
theorem eis_seq (h : EvS M ps σ B te F) : EvIS M ps σ B (iSeq K te) (itemsS F) := fun us xs us' e B1 H1 g w R q => by
  obtain ⟨x, us1, ex, e⟩ := bindS_some e
  obtain ⟨ee, rfl⟩ := pureS_some e; clear e; have e := ee; clear ee
  refine h _ _ _ ex B1 H1 g w _ fun v B2 H2 g2 r w2 => ?_
  have h2 : EvO (fun _ H Q => Q v H) σ B2 H2 (some x) := fun z ez B3 H3 g3 Q q => by cases ez; exact q v B3 H3 (Go.refl g3.bh) (r.upA g3)
  exact ei_seq h2 xs (by simpa using e) B2 H2 (At.refl g2.bh) R fun J B3 H3 g3 wk => q J B3 H3 (g2.trans (.of g3)) wk (w2.go g3)
def rngS (f : List U → Option (List U)) (F : SM (List U)) : SM (List U) := bindS F fun x => pureS (f x)
theorem eis_rng1 {F : SM (List U)} (h : EvAS M ps σ B tl F) : EvIS M ps σ B (iRng1 tl) (rngS rng1 F) := fun us xs us' e B1 H1 g w R q => by
  obtain ⟨x, us1, ex, e⟩ := bindS_some e
  obtain ⟨ee, rfl⟩ := pureS_some e; clear e; have e := ee; clear ee
  refine h _ _ _ ex B1 H1 g w _ fun v B2 H2 g2 r w2 => ?_
  have h2 : EvA (fun _ H Q => Q v H) σ B2 H2 (some x) := fun z ez B3 H3 g3 Q q => by cases ez; exact q v B3 H3 (Go.refl g3.bh) (r.kp (Kp.of g3.b))
  exact ei_rng1 h2 xs (by simpa using e) B2 H2 (At.refl g2.bh) R fun J B3 H3 g3 wk => q J B3 H3 (g2.trans (.of g3)) wk (w2.go g3)
theorem eis_rng2 {F : SM (List U)} (h : EvAS M ps σ B tl F) : EvIS M ps σ B (iRng2 tl) (rngS rng2 F) := fun us xs us' e B1 H1 g w R q => by
  obtain ⟨x, us1, ex, e⟩ := bindS_some e
  obtain ⟨ee, rfl⟩ := pureS_some e; clear e; have e := ee; clear ee
  refine h _ _ _ ex B1 H1 g w _ fun v B2 H2 g2 r w2 => ?_
  have h2 : EvA (fun _ H Q => Q v H) σ B2 H2 (some x) := fun z ez B3 H3 g3 Q q => by cases ez; exact q v B3 H3 (Go.refl g3.bh) (r.kp (Kp.of g3.b))
  exact ei_rng2 h2 xs (by simpa using e) B2 H2 (At.refl g2.bh) R fun J B3 H3 g3 wk => q J B3 H3 (g2.trans (.of g3)) wk (w2.go g3)
end
end Dn
set_option Elab.async false
set_option linter.all false
set_option maxRecDepth 100000
set_option maxHeartbeats 2000000
namespace Dn
open PySem L2
variable [CTab]
/-! ### data without locked things in it -/
mutual
def U.pl : U → Bool
  | .non => true
  | .bl _ => true
  | .int _ => true
  | .str _ => true
  | .tup xs => U.pls xs
  | .lst xs => U.pls xs
  | _ => false
def U.pls : List U → Bool
  | [] => true
  | x :: xs => U.pl x && U.pls xs
end
section
variable {B B' : Hp} {p : Addr} {od : Obj} {u0 : HO}
mutual
theorem Rp.erase (hp : B p = some (.frz od u0)) (s : ∀ a o, B a = some o → a ≠ p → B' a = some o) : ∀ {u : U} {v : V}, Rp B u v → u.pl = true → Rp B' u v
  | _, _, .non, _ => .non
  | _, _, .bl b, _ => .bl b
  | _, _, .int i, _ => .int i
  | _, _, .str x, _ => .str x
  | _, _, @Rp.tup _ _ a _ _ h r, e => .tup (s _ _ h (fun z => by rw [z, hp] at h; cases h)) (Rps.erase hp s r (by simpa [U.pl] using e))
  | _, _, @Rp.lst _ _ a _ _ h r, e => .lst (s _ _ h (fun z => by rw [z, hp] at h; cases h)) (Rps.erase hp s r (by simpa [U.pl] using e))
  | _, _, .frl _ _, e => absurd e (by simp [U.pl])
  | _, _, .dic _ _, e => absurd e (by simp [U.pl])
  | _, _, .dit _ _, e => absurd e (by simp [U.pl])
  | _, _, .tpd _ _ _, e => absurd e (by simp [U.pl])
  | _, _, .dib _ _ _, e => absurd e (by simp [U.pl])
  | _, _, .mt, e => absurd e (by simp [U.pl])
  | _, _, .exc0 _, e => absurd e (by simp [U.pl])
  | _, _, .exc _ _ _, e => absurd e (by simp [U.pl])
  | _, _, .obj _ _ _, e => absurd e (by simp [U.pl])
theorem Rps.erase (hp : B p = some (.frz od u0)) (s : ∀ a o, B a = some o → a ≠ p → B' a = some o) : ∀ {u : List U} {v : List V}, Rps B u v → U.pls u = true → Rps B' u v
  | _, _, .nil, _ => .nil
  | _, _, .cons h r, e => by
    rw [U.pls, Bool.and_eq_true] at e
    exact .cons (Rp.erase hp s h e.1) (Rps.erase hp s r e.2)
end
end
def eraseB (B : Hp) (p : Addr) : Hp := fun a => if a = p then none else B a
theorem erase_same {B : Hp} {p : Addr} : eraseB B p p = none := by simp [eraseB]
theorem erase_ne {B : Hp} {p a : Addr} (h : a ≠ p) : eraseB B p a = B a := by simp [eraseB, h]
/-- what the heap has of one's own -/
theorem OwnAt.lock {B H : Hp} {p : Addr} {u : U} (h : OwnAt B H p u) : ∃ o, H p = some o ∧ Mut (some o) ∧ ∀ od, Rp (upd B p (.frz od o)) u (.ref p) ∨ B p ≠ none := by
  cases u with
  | frl xs =>
    obtain ⟨vs, e, r⟩ := h
    refine ⟨_, e, trivial, fun od => ?_⟩
    cases hb : B p with
    | none => exact .inl (.frl upd_same (r.kp (Kp.of fun b o h => by rw [upd_ne (ne_of_none h hb)]; exact h)))
    | some _ => exact .inr (by simp)
  | dic xs =>
    obtain ⟨vs, e, r⟩ := h
    refine ⟨_, e, trivial, fun od => ?_⟩
    cases hb : B p with
    | none => exact .inl (.dic upd_same (r.kp (Kp.of fun b o h => by rw [upd_ne (ne_of_none h hb)]; exact h)))
    | some _ => exact .inr (by simp)
  | dit xs =>
    obtain ⟨vs, e, r⟩ := h
    refine ⟨_, e, trivial, fun od => ?_⟩
    cases hb : B p with
    | none => exact .inl (.dit upd_same (r.kp (Kp.of fun b o h => by rw [upd_ne (ne_of_none h hb)]; exact h)))
    | some _ => exact .inr (by simp)
  | _ => exact h.elim
theorem same_lock {B : Hp} {p : Addr} {o : HO} (hb : B p = none) : Same B (upd B p o) := fun b u h => by rw [upd_ne (ne_of_none h hb)]; exact h
/-- a look at one's own object, which is locked the while -/
def lockO (j : Nat) (o : U → Option U) : SM U := fun us => us[j]?.bind fun u => if u.own = true then (o u).bind fun z => if z.pl = true then some (z, us) else none else none
def lockT (j : Nat) (o : U → Option Bool) : SM Bool := fun us => us[j]?.bind fun u => if u.own = true then (o u).map fun z => (z, us) else none
section
variable {M : Addr → Prop} {ps : List Addr} {σ : St} {B H : Hp} {ta tb tc te : TE} {t : TT} {tl tr : TA} {F G : SM U} {K : PySem.W.Frag} {j : Nat} {p : Addr}
theorem es_lockO {o : U → Option U} (hp : ps[j]? = some p) (h : ∀ u B' H', Same B B' → Rp B' u (.ref p) → EvO te σ B' H' (o u)) : EvS M ps σ B (tLockE te) (lockO j o) := fun us z us' e B1 H1 g w Q q => by
  obtain ⟨u, eu, e⟩ := bind_some e
  split at e
  · rename_i ho
    obtain ⟨z1, ez, e⟩ := bind_some e
    split at e
    · rename_i hz
      cases e
      obtain ⟨hb, ow⟩ := (w.at_ j p u hp eu).own ho
      obtain ⟨o1, e1, mu, hl⟩ := ow.lock
      refine ⟨p, o1, e1, mu, fun od => ?_⟩
      have r1 : Rp (upd B1 p (.frz od o1)) u (.ref p) := (hl od).resolve_right (fun z => z hb)
      have s1 : Same (upd B1 p (.frz od o1)) (upd H1 p (.frz od o1)) := fun b x hx => by
        by_cases hbp : b = p
        · subst hbp; rw [upd_same] at hx ⊢; exact hx
        · rw [upd_ne hbp] at hx ⊢; exact g.bh b x hx
      refine h u _ (upd H1 p (.frz od o1)) (g.b.trans (same_lock hb)) r1 z ez _ _ (At.refl s1) _ fun v B2 H2 g2 r2 => ?_
      have eB : B2 p = some (.frz od o1) := g2.b _ _ upd_same
      have eH : H2 p = some (.frz od o1) := g2.bh _ _ eB
      have gg : Go B1 H1 (eraseB B2 p) (upd H2 p o1) := by
        refine ⟨fun a x hx => ?_, fun a x hx => ?_, fun a x hx => ?_, fun a x hx => ?_⟩
        · by_cases ha : a = p
          · subst ha; rw [upd_same, ← e1]; exact hx
          · rw [upd_ne ha]; exact g2.h a x (by rw [upd_ne ha]; exact hx)
        · have ha : a ≠ p := ne_of_none hx hb
          rw [erase_ne ha]; exact g2.b a x (by rw [upd_ne ha]; exact hx)
        · by_cases ha : a = p
          · subst ha; rw [erase_same] at hx; cases hx
          · rw [erase_ne ha] at hx; rw [upd_ne ha]; exact g2.bh a x hx
        · by_cases ha : a = p
          · subst ha; rw [erase_same] at hx; cases hx
          · rw [erase_ne ha] at hx
            rcases g2.fr a x hx with z | z
            · rw [upd_ne ha] at z; exact .inl z
            · rw [upd_ne ha] at z; exact .inr z
      exact ⟨eH, q v _ _ (.of gg) (r2.erase eB (fun a x hx ha => by rw [erase_ne ha]; exact hx) hz) (w.go gg)⟩
    · cases e
  · cases e
/-- the var of one's own list: kept for good from here on -/
def takeS (j : Nat) : SM U := fun us => match us[j]? with
  | some (.frl xs) => some (.lst xs, us.set j .non)
  | _ => none
theorem es_take {i : Nat} (hp : ps[j]? = some p) (hv : σ[i]? = some (some (.ref p))) : EvS M ps σ B (tVar i) (takeS j) := fun us z us' e B1 H1 g w Q q => by
  unfold takeS at e
  split at e
  · rename_i xs eu
    cases e
    have wp := w.at_ j p _ hp eu
    obtain ⟨hb, vs, e1, r⟩ := wp.own rfl
    have s1 : Same B1 (upd B1 p (.lst vs)) := same_lock hb
    have sb : Same (upd B1 p (.lst vs)) H1 := fun b x hx => by
      by_cases hbp : b = p
      · subst hbp; rw [upd_same] at hx; rw [e1]; exact hx
      · rw [upd_ne hbp] at hx; exact g.bh b x hx
    refine ⟨_, hv, q _ (upd B1 p (.lst vs)) H1 ⟨fun a o e _ => e, fun a e => e, s1, sb, fun a o e => ?_⟩ (.lst upd_same (r.kp (Kp.of s1))) ?_⟩
    · by_cases ha : a = p
      · subst ha; exact .inr (.inr (List.mem_of_getElem? hp))
      · rw [upd_ne ha] at e; exact .inl e
    · exact w.set hp (fun q _ _ o e => e) s1 (fun q _ hq hn => by rw [upd_ne hq]; exact hn) ⟨wp.m, ⟨_, e1⟩, .inl rfl⟩
  · cases e
/-- x.append(e) -/
def appS (j : Nat) (y : U) : SM U := fun us => match us[j]? with
  | some (.frl xs) => if xs.length < lim then some (.non, us.set j (.frl (xs ++ [y]))) else none
  | _ => none
theorem own_upd {us : List U} {B2 H2 : Hp} {u : U} {o : HO} (hp : ps[j]? = some p) (w : Ows M B2 H2 ps us) (s : Same B2 H2) (wp : M p) (hb : B2 p = none) (hn : OwnAt B2 (upd H2 p o) p u) : Ows M B2 (upd H2 p o) ps (us.set j u) :=
  w.set hp (fun q _ hq o e => by rw [upd_ne hq]; exact e) (Same.refl _) (fun q _ _ hn => hn) ⟨wp, ⟨_, upd_same⟩, .inr ⟨hb, hn⟩⟩
theorem gs_upd {B2 H2 : Hp} {o : HO} (hp : ps[j]? = some p) (s : Same B2 H2) (hb : B2 p = none) : Gs (inP ps) B2 H2 B2 (upd H2 p o) :=
  ⟨fun a x e hm => by rw [upd_ne (fun z => hm (by rw [z]; exact List.mem_of_getElem? hp))]; exact e, fun a e => by
      by_cases ha : a = p
      · subst ha; rw [upd_same] at e; cases e
      · rw [upd_ne ha] at e; exact e, Same.refl _, same_upd s hb, fun a x e => .inl e⟩
theorem es_app {i : Nat} (hp : ps[j]? = some p) (hv : σ[i]? = some (some (.ref p))) (h : EvS M ps σ B te F) (hl : ∀ us y us', F us = some (y, us') → ∀ xs, us'[j]? = some (.frl xs) → ∃ ys, us[j]? = some (.frl ys)) :
    EvS M ps σ B (tBM K "list" rAppend (tVar i) (tCons te tNil)) (bindS F fun y => appS j y) := fun us z us' e B1 H1 g w Q q => by
  obtain ⟨y, us1, ey, e⟩ := bindS_some e
  unfold appS at e
  split at e
  · rename_i xs eu
    split at e
    · rename_i hlim
      cases e
      obtain ⟨ys, eys⟩ := hl _ _ _ ey xs eu
      obtain ⟨_, vs0, e0, _⟩ := (w.at_ j p _ hp eys).own rfl
      refine ⟨_, hv, .inl ⟨rfl, vs0, SqL.of e0⟩, h _ _ _ ey B1 H1 g w _ fun v B2 H2 g2 r2 w2 => ?_⟩
      have wp := w2.at_ j p _ hp eu
      obtain ⟨hb, vs, e1, r⟩ := wp.own rfl
      exact ⟨p, vs, v, rfl, rfl, e1, lim_lt (by rw [r.length]; exact Nat.le_of_lt hlim), q _ B2 _ (g2.trans (gs_upd hp g2.bh hb)) .non (own_upd hp w2 g2.bh wp.m hb ⟨_, upd_same, r.append (.one r2)⟩)⟩
    · cases e
  · cases e
/-- x.pop(e) -/
def popS (j : Nat) (y : U) : SM U := fun us => match us[j]?, y with
  | some (.frl xs), .int i => if -(2 ^ 63) ≤ i ∧ i < 2 ^ 63 then (seqIndex? i xs.length).bind fun k => xs[k]?.map fun z => (z, us.set j (.frl (xs.eraseIdx k))) else none
  | _, _ => none
theorem Rps.eraseIdx {B : Hp} : ∀ {xs : List U} {vs : List V} (k : Nat), Rps B xs vs → Rps B (xs.eraseIdx k) (vs.eraseIdx k)
  | _, _, _, .nil => .nil
  | _, _, 0, .cons _ t => t
  | _, _, k + 1, .cons h t => .cons h (Rps.eraseIdx k t)
theorem es_pop {i : Nat} (hp : ps[j]? = some p) (hv : σ[i]? = some (some (.ref p))) (h : EvS M ps σ B te F) (hl : ∀ us y us', F us = some (y, us') → ∀ xs, us'[j]? = some (.frl xs) → ∃ ys, us[j]? = some (.frl ys)) :
    EvS M ps σ B (tBM K "list" rPopAt (tVar i) (tCons te tNil)) (bindS F fun y => popS j y) := fun us z us' e B1 H1 g w Q q => by
  obtain ⟨y, us1, ey, e⟩ := bindS_some e
  unfold popS at e
  split at e
  · rename_i xs n eu
    split at e
    · rename_i hlim
      obtain ⟨k, ek, e⟩ := bind_some e
      obtain ⟨z1, ez, e⟩ := map_some e
      cases e
      obtain ⟨ys, eys⟩ := hl _ _ _ ey xs eu
      obtain ⟨_, vs0, e0, _⟩ := (w.at_ j p _ hp eys).own rfl
      refine ⟨_, hv, .inl ⟨rfl, vs0, SqL.of e0⟩, h _ _ _ ey B1 H1 g w _ fun v B2 H2 g2 r2 w2 => ?_⟩
      have wp := w2.at_ j p _ hp eu
      obtain ⟨hb, vs, e1, r⟩ := wp.own rfl
      cases r2
      obtain ⟨v1, ev1, rv1⟩ := r.get ez
      exact ⟨p, vs, n, k, v1, rfl, rfl, e1, hlim.1, hlim.2, by rw [r.length]; exact ek, ev1, q _ B2 _ (g2.trans (gs_upd hp g2.bh hb)) rv1 (own_upd hp w2 g2.bh wp.m hb ⟨_, upd_same, r.eraseIdx k⟩)⟩
    · cases e
  · cases e
/-- a state that keeps a list a list -/
def Lk (j : Nat) (F : SM U) : Prop := ∀ us y us', F us = some (y, us') → ∀ xs, us'[j]? = some (.frl xs) → ∃ ys, us[j]? = some (.frl ys)
theorem lk_of {o : Option U} : Lk j (pureS o) := fun us y us' e xs ex => by
  obtain ⟨_, rfl⟩ := pureS_some e
  exact ⟨xs, ex⟩
/-! ### new objects -/
theorem OwnAt.new {B H : Hp} {xs : List U} {vs : List V} (r : Rps B xs vs) {p : Addr} : OwnAt B (upd H p (.lst vs)) p (.frl xs) := ⟨vs, upd_same, r⟩
def nlstS (F : SM (List U)) : SM U := bindS F fun xs => pureS (if xs.length ≤ lim then some (.frl xs) else none)
theorem en_lst {F : SM (List U)} (h : EvAS M ps σ B tl F) : EvN M ps σ B (tLst tl) (nlstS F) := fun us z us' e B1 H1 g w Q q => by
  obtain ⟨x, us1, ex, e⟩ := bindS_some e
  obtain ⟨ee, rfl⟩ := pureS_some e; clear e; have e := ee; clear ee
  split at e
  · rename_i hl
    cases e
    exact h _ _ _ ex B1 H1 g w _ fun vs B2 H2 g2 r w2 => ⟨by rw [r.length]; exact lim_size hl, fun p hp => q p B2 _ (g2.trans (.of (Go.own g2.bh hp))) (g2.n p hp) (g2.bh.free hp) (OwnAt.new r) (w2.go (Go.own g2.bh hp))⟩
  · cases e
theorem en_dnewK : EvN M ps σ B tDNewK (pureS (some (.dic []))) := fun us z us' e B1 H1 g w Q q => by
  obtain ⟨ee, rfl⟩ := pureS_some e; clear e; have e := ee; clear ee
  cases e
  exact fun p hp => q p B1 _ (.of (Go.own g.bh hp)) hp (g.bh.free hp) ⟨[], upd_same, .nil⟩ (w.go (Go.own g.bh hp))
theorem en_dnewT : EvN M ps σ B tDNewT (pureS (some (.dit []))) := fun us z us' e B1 H1 g w Q q => by
  obtain ⟨ee, rfl⟩ := pureS_some e; clear e; have e := ee; clear ee
  cases e
  exact fun p hp => q p B1 _ (.of (Go.own g.bh hp)) hp (g.bh.free hp) ⟨[], upd_same, .nil⟩ (w.go (Go.own g.bh hp))
/-- a + b of lists, new -/
def catN (x y : U) : Option U := match x, y with
  | .lst xs, .lst ys => if xs.length + ys.length ≤ lim then some (.frl (xs ++ ys)) else none
  | _, _ => none
def ncatS (F G : SM U) : SM U := bindS F fun x => bindS G fun y => pureS (catN x y)
theorem en_cat (ha : EvS M ps σ B ta F) (hb : EvS M ps σ B tb G) : EvN M ps σ B (tOp (rAddU K) ta tb) (ncatS F G) := fun us z us' e B1 H1 g w Q q => by
  obtain ⟨x, us1, ex, e⟩ := bindS_some e
  obtain ⟨y, us2, ey, e⟩ := bindS_some e
  obtain ⟨ee, rfl⟩ := pureS_some e; clear e; have e := ee; clear ee
  refine ha _ _ _ ex B1 H1 g w _ fun v B2 H2 g2 r2 w2 => hb _ _ _ ey B2 H2 (g.trs g2) w2 _ fun v' B3 H3 g3 r3 w3 => ?_
  have r2 := r2.upA g3.at
  unfold catN at e
  split at e
  · rename_i xs ys
    split at e
    · rename_i hl
      cases e
      cases r2 with
      | @lst a _ vs h1 r1 =>
        cases r3 with
        | @lst b _ ws h2 r2 =>
          exact .inr (.inr (.inl ⟨a, b, vs, ws, rfl, rfl, g3.bh _ _ h1, g3.bh _ _ h2, by rw [r1.length, r2.length]; exact lim_size hl, fun p hp => q p B3 _ ((g2.trans g3).trans (.of (Go.own g3.bh hp))) ((g2.trans g3).n p hp) (g3.bh.free hp) (OwnAt.new (r1.append r2)) (w3.go (Go.own g3.bh hp))⟩))
    · cases e
  · cases e
/-- a def that gives a new object -/
def spN (m : List U → Option U) : Sp := fun vs H Q _ => ∃ B xs u, Same B H ∧ Rps B xs vs ∧ m xs = some u ∧ ∀ p B2 H2, Go B H B2 H2 → H p = none → B2 p = none → OwnAt B2 H2 p u → Q (.ref p) H2
theorem en_call {m : List U → Option U} {E : XK} {F : SM (List U)} (ha : EvAS M ps σ B tl F) : EvN M ps σ B (tCall (spN m) [] E tl) (callS m F) := fun us z us' e B1 H1 g w Q q => by
  obtain ⟨x, us1, ex, e⟩ := bindS_some e
  obtain ⟨ee, rfl⟩ := pureS_some e; clear e; have e := ee; clear ee
  refine ha _ _ _ ex B1 H1 g w _ fun vs B2 H2 g2 r w2 => ?_
  show spN m (vs ++ []) H2 Q E
  rw [List.append_nil]
  exact ⟨B2, x, z, g2.bh, r, e, fun p B3 H3 g3 n3 b3 o3 => q p B3 H3 (g2.trans (.of g3)) (g2.n p n3) b3 o3 (w2.go g3)⟩
/-! ### a def that changes its first argument -/
def spS (m : U → List U → Option (U × U)) : Sp := fun vs H Q _ => ∃ B p ws u xs r u', Same B H ∧ vs = .ref p :: ws ∧ B p = none ∧ OwnAt B H p u ∧ Rps B xs ws ∧ m u xs = some (r, u') ∧
  ∀ v B2 H2, Gs (fun a => a = p) B H B2 H2 → B2 p = none → OwnAt B2 H2 p u' → Rp B2 r v → Q v H2
def callM (j : Nat) (m : U → List U → Option (U × U)) (xs : List U) : SM U := fun us => us[j]?.bind fun u => if u.own = true then (m u xs).map fun r => (r.1, us.set j r.2) else none
theorem es_callM {i : Nat} {m : U → List U → Option (U × U)} {E : XK} {F : SM (List U)} (hp : ps[j]? = some p) (hv : σ[i]? = some (some (.ref p))) (ha : EvAS M ps σ B tl F) :
    EvS M ps σ B (tCall (spS m) [] E (tCons (tVar i) tl)) (bindS F fun xs => callM j m xs) := fun us z us' e B1 H1 g w Q q => by
  obtain ⟨x, us1, ex, e⟩ := bindS_some e
  obtain ⟨u, eu, e⟩ := bind_some e
  split at e
  · rename_i ho
    obtain ⟨⟨r, u'⟩, er, e⟩ := map_some e
    cases e
    refine ⟨_, hv, ha _ _ _ ex B1 H1 g w _ fun vs B2 H2 g2 rr w2 => ?_⟩
    have wp := w2.at_ j p u hp eu
    obtain ⟨hb, ow⟩ := wp.own ho
    show spS m ((.ref p :: vs) ++ []) H2 Q E
    rw [List.append_nil]
    refine ⟨B2, p, vs, u, x, r, u', g2.bh, rfl, hb, ow, rr, er, fun v B3 H3 g3 b3 o3 r3 => ?_⟩
    refine q v B3 H3 (g2.trans (g3.mono fun a ha => by subst ha; exact List.mem_of_getElem? hp)) r3 ?_
    refine w2.set hp (fun q hq hne o e => g3.h q o e hne) g3.b (fun q hq hne hn => ?_) ⟨wp.m, o3.ex, .inr ⟨b3, o3⟩⟩
    obtain ⟨o, eo⟩ := w2.exs hq
    exact g3.noB hn eo hne
  · cases e
/-- .. called with a new object, which is not kept -/
def callF (m : U → List U → Option (U × U)) (F : SM U) (G : SM (List U)) : SM U := bindS F fun u => bindS G fun xs => pureS ((m u xs).map Prod.fst)
theorem es_callF {m : U → List U → Option (U × U)} {E : XK} {o : Option (List U)} (hn : EvN M ps σ B te F) (ha : EvA tl σ B H o) : EvS M ps σ B (tCall (spS m) [] E (tCons te tl)) (callF m F (pureS o)) := fun us z us' e B1 H1 g w Q q => by
  obtain ⟨u, us1, eu, e⟩ := bindS_some e
  obtain ⟨xs, us2, ex, e⟩ := bindS_some e
  obtain ⟨ee, rfl⟩ := pureS_some e; clear e
  obtain ⟨ex', rfl⟩ := pureS_some ex
  obtain ⟨⟨r, u'⟩, er, e⟩ := map_some ee
  cases e
  refine hn _ _ _ eu B1 H1 g w _ fun p B2 H2 g2 n2 b2 o2 w2 => ha xs ex' B2 H2 (g.trs g2) _ fun vs B3 H3 g3 r3 => ?_
  obtain ⟨ob, eb⟩ := o2.ex
  show spS m ((.ref p :: vs) ++ []) H3 Q E
  rw [List.append_nil]
  have o3 : OwnAt B3 H3 p u := o2.up (fun o e => g3.h p o e) g3.b
  refine ⟨B3, p, vs, u, xs, r, u', g3.bh, rfl, g3.noB b2 eb, o3, r3, er, fun v B4 H4 g4 b4 o4 r4 => ?_⟩
  have w3 := w2.go g3
  have hnp : p ∉ ps := w.fresh n2
  have g14 : Gs (inP ps) B1 H1 B4 H4 := by
    have g13 := g2.trans (.of g3)
    refine ⟨fun a o e hm => g4.h a o (g13.h a o e hm) (fun z => by subst z; rw [n2] at e; cases e), fun a e => g13.n a (g4.n a e), g13.b.trans g4.b, g4.bh, fun a o e => ?_⟩
    rcases g4.fr a o e with e | e | e
    · exact g13.fr a o e
    · exact .inr (.inl (g13.n a e))
    · subst e; exact .inr (.inl n2)
  refine q v B4 H4 g14 r4 (w3.keep (fun a ha o e => g4.h a o e fun z => hnp (z ▸ ha)) g4.b fun a ha hb => ?_)
  obtain ⟨o, eo⟩ := w3.exs ha
  exact g4.noB hb eo fun z => hnp (z ▸ ha)
end
end Dn
set_option Elab.async false
set_option linter.all false
set_option maxRecDepth 100000
set_option maxHeartbeats 2000000
namespace Dn
open PySem L2
variable [CTab]
theorem mem_ne {ps : List Addr} {a p : Addr} (ha : a ∈ ps) (hn : p ∉ ps) : a ≠ p := fun z => hn (by rw [← z]; exact ha)
/-! ### a new list kept for good -/
def keepN (F : SM U) : SM U := bindS F fun u => match u with
  | .frl xs => pureS (some (.lst xs))
  | _ => pureS none
/-! ### comprehensions with a state -/
def lcSL (p : U → SM Bool) (f : U → SM U) : List U → SM (List U)
  | [] => pureS (some [])
  | x :: r => bindS (p x) fun b => if b = true then bindS (f x) fun y => bindS (lcSL p f r) fun z => pureS (some (y :: z)) else lcSL p f r
def lcS (p : U → SM Bool) (f : U → SM U) (F : SM (List U)) : SM U := bindS F fun xs => if xs.length ≤ lim then bindS (lcSL p f xs) fun zs => pureS (some (.frl zs)) else pureS none
def lcS2 (p : U → U → SM Bool) (f : U → U → SM U) (F : SM (List U)) : SM U :=
  lcS (fun u us => (unp2 u).bind fun ab => p ab.1 ab.2 us) (fun u us => (unp2 u).bind fun ab => f ab.1 ab.2 us) F
section
variable {M : Addr → Prop} {ps : List Addr} {σ : St} {B H : Hp} {ta tb tc te : TE} {t : TT} {tl tr : TA} {F G : SM U} {K : PySem.W.Frag} {j : Nat} {p : Addr}
theorem es_ofN (h : EvN M ps σ B te F) : EvS M ps σ B te (keepN F) := fun us z us' e B1 H1 g w Q q => by
  obtain ⟨u, us1, eu, e⟩ := bindS_some e
  split at e
  · rename_i xs
    obtain ⟨ee, rfl⟩ := pureS_some e; clear e; have e := ee; clear ee
    cases e
    refine h _ _ _ eu B1 H1 g w Q fun p B2 H2 g2 n2 b2 o2 w2 => ?_
    obtain ⟨vs, e1, r⟩ := o2
    have s1 : Same B2 (upd B2 p (.lst vs)) := same_lock b2
    have sb : Same (upd B2 p (.lst vs)) H2 := fun b x hx => by
      by_cases hbp : b = p
      · subst hbp; rw [upd_same] at hx; rw [e1]; exact hx
      · rw [upd_ne hbp] at hx; exact g2.bh b x hx
    have hnp : p ∉ ps := w.fresh n2
    refine q _ (upd B2 p (.lst vs)) H2 ⟨g2.h, g2.n, g2.b.trans s1, sb, fun a o e => ?_⟩ (.lst upd_same (r.kp (Kp.of s1))) (w2.keep (fun a _ o e => e) s1 fun a ha hb => by rw [upd_ne (mem_ne ha hnp)]; exact hb)
    by_cases ha : a = p
    · subst ha; exact .inr (.inl n2)
    · rw [upd_ne ha] at e; exact g2.fr a o e
  · obtain ⟨ee, rfl⟩ := pureS_some e
    cases ee
theorem en_lcG {wi : TI} {g : TG} {tt : TT} {te : TE} {vs : List Nat} {F : SM (List U)} {p : U → SM Bool} {f : U → SM U} (hi : EvIS M ps σ B wi F)
    (hg : ∀ u v B1 H1 us (Q : St → Hp → Prop) b us', At B B1 H1 → Rp B1 u v → p u us = some (b, us') → (∀ σ2 (c : SM Bool) (d : SM U), wipe σ2 vs = wipe σ vs → c us = some (b, us') → (b = true → d us' = f u us') → EvTS M ps σ2 B1 tt c → EvS M ps σ2 B1 te d → Q σ2 H1) → g v (wipe σ vs) H1 Q) :
    EvN M ps σ B (tLc wi g tt te vs) (lcS p f F) := fun us z us' e B0 H0 g0 w0 Q q => by
  obtain ⟨xs, us1, exs, e⟩ := bindS_some e
  split at e
  · rename_i hlim
    obtain ⟨zs, us2, ezs, e⟩ := bindS_some e
    obtain ⟨ee, rfl⟩ := pureS_some e; clear e; have e := ee; clear ee
    cases e
    refine hi _ _ _ exs B0 H0 g0 w0 _ fun J B2 H2 g2 w w2 => fun D hD => ?_
    have hnD : D ∉ ps := w2.fresh hD
    have w' : Walk J xs.length (fun H' => Same B2 H') (J.yld) := ⟨w.goes, w.stops, fun _ _ _ _ _ _ y => y⟩
    refine lc_it w' (fun i H' => ∃ Bi acc ys usi, Gs (inP ps) B2 H2 Bi H' ∧ Bi D = none ∧ H' D = some (.lst acc) ∧ Rps Bi ys acc ∧ Ows M Bi H' ps usi ∧ (lcSL p f (xs.drop i) usi).map (fun r => (ys ++ r.1, r.2)) = some (zs, us') ∧ ys.length ≤ i) ?_ ?_ ?_ ?_
    · exact ⟨B2, [], [], us1, .of (Go.own g2.bh hD), g2.bh.free hD, upd_same, .nil, w2.go (Go.own g2.bh hD), by simp [ezs], Nat.le_refl _⟩
    · rintro i H' _ ⟨Bi, _, _, _, gi, _⟩
      exact gi.b.trans gi.bh
    · rintro i x H' H'' hin ⟨Bi, acc, ys, usi, gi, hBD, hHD, ra, wi', hr, hy⟩ y
      obtain ⟨B', u, g', eu, ru⟩ := w.yields i H' x H'' Bi hin gi.b gi.bh y
      rw [drop_at eu] at hr
      obtain ⟨⟨rr, usr⟩, err, hr⟩ := map_some hr
      obtain ⟨b, usb, eb, err⟩ := bindS_some err
      have w'' := wi'.go g'
      have gg : At B B' H'' := (g0.trs g2).tr (gi.at.trans g')
      refine hg u x B' H'' usi _ b usb gg ru eb fun σ2 c d hw hc hd ht hte => ⟨hw, ?_⟩
      refine ht _ _ _ hc B' H'' (At.refl gg.bh) w'' _ fun B3 H3 g3 w3 => ?_
      have hB'D : B' D = none := g'.noB hBD hHD
      have hH''D : H'' D = some (.lst acc) := g'.h _ _ hHD
      have hB3 : B3 D = none := g3.noB hB'D hH''D hnD
      have hH3 : H3 D = some (.lst acc) := g3.h _ _ hH''D hnD
      have gi3 := (gi.trans (.of g')).trans g3
      cases b with
      | true =>
        rw [if_pos rfl] at err
        obtain ⟨yv, usy, ey, err⟩ := bindS_some err
        obtain ⟨r2, usz, er2, err⟩ := bindS_some err
        obtain ⟨ee, rfl⟩ := pureS_some err
        cases ee
        refine hte _ _ _ ((hd rfl).trans ey) B3 H3 g3.at w3 _ fun v4 B4 H4 g4 r4 w4 => ?_
        have hB4 : B4 D = none := g4.noB hB3 hH3 hnD
        have hH4 : H4 D = some (.lst acc) := g4.h _ _ hH3 hnD
        have gm : Gs (inP ps) B2 H2 B4 (upd H4 D (.lst (acc ++ [v4]))) := by
          have gi4 := gi3.trans g4
          refine ⟨fun a o e hm => ?_, fun a e => ?_, gi4.b, same_upd gi4.bh hB4, gi4.fr⟩
          · rw [upd_ne (ne_of_none e hD)]; exact gi4.h a o e hm
          · by_cases ha : a = D
            · subst ha; rw [upd_same] at e; cases e
            · rw [upd_ne ha] at e; exact gi4.n a e
        refine ⟨acc, hH4, lim_lt (by have := ra.length; omega), B4, acc ++ [v4], ys ++ [yv], usy, gm, hB4, upd_same, ((((ra.up g').kp (Kp.of g3.b)).kp (Kp.of g4.b)).append (.one r4)), ?_, ?_, ?_⟩
        · exact w4.keep (fun a ha o e => by rw [upd_ne (mem_ne ha hnD)]; exact e) (Same.refl _) fun a _ hb => hb
        · rw [er2]
          simp only [Option.map_some]
          rw [← hr]
          simp
        · rw [List.length_append, List.length_singleton]; omega
      | false =>
        refine ⟨B3, acc, ys, usb, gi3, hB3, hH3, (ra.up g').kp (Kp.of g3.b), w3, ?_, by omega⟩
        rw [if_neg (by decide)] at err
        rw [err]
        exact congrArg some hr
    · rintro H' ⟨Bi, acc, ys, usi, gi, hBD, hHD, ra, wi', hr, _⟩
      rw [List.drop_length] at hr
      obtain ⟨⟨r1, r2⟩, er, hr⟩ := map_some hr
      obtain ⟨ee, rfl⟩ := pureS_some er
      cases ee
      have e1 : ys = zs := by
        have := congrArg Prod.fst hr
        simpa using this
      have e2 : r2 = us' := congrArg Prod.snd hr
      subst e1 e2
      exact q D Bi H' (g2.trans gi) (g2.n D hD) hBD ⟨acc, hHD, ra⟩ wi'
  · obtain ⟨ee, rfl⟩ := pureS_some e
    cases ee
/-- one name -/
theorem en_lc {wi : TI} {tt : TT} {te : TE} {vs : List Nat} {jj : Nat} {F : SM (List U)} {p : U → SM Bool} {f : U → SM U} (hi : EvIS M ps σ B wi F) (hw : ∀ x, wipe ((wipe σ vs).set jj (some x)) vs = wipe σ vs)
    (hp : ∀ u v B1 H1, At B B1 H1 → Rp B1 u v → EvTS M ps ((wipe σ vs).set jj (some v)) B1 tt (p u)) (hf : ∀ u v B1 H1, At B B1 H1 → Rp B1 u v → EvS M ps ((wipe σ vs).set jj (some v)) B1 te (f u)) :
    EvN M ps σ B (tLc wi (gName jj) tt te vs) (lcS p f F) :=
  en_lcG hi fun u v B1 H1 us Q b us' g r eb k => k _ (p u) (f u) (hw v) eb (fun _ => rfl) (hp u v B1 H1 g r) (hf u v B1 H1 g r)
/-- two names -/
theorem en_lc2n {wi : TI} {tt : TT} {te : TE} {vs : List Nat} {j1 j2 : Nat} {F : SM (List U)} {p : U → U → SM Bool} {f : U → U → SM U} (hi : EvIS M ps σ B wi F) (hw : ∀ x y, wipe (((wipe σ vs).set j1 (some x)).set j2 (some y)) vs = wipe σ vs)
    (hp : ∀ a b v w B1 H1, At B B1 H1 → Rp B1 a v → Rp B1 b w → EvTS M ps (((wipe σ vs).set j1 (some v)).set j2 (some w)) B1 tt (p a b)) (hf : ∀ a b v w B1 H1, At B B1 H1 → Rp B1 a v → Rp B1 b w → EvS M ps (((wipe σ vs).set j1 (some v)).set j2 (some w)) B1 te (f a b)) :
    EvN M ps σ B (tLc wi (gTup K 2 (gCons (gName j1) (gCons (gName j2) gNil))) tt te vs) (lcS2 p f F) :=
  en_lcG hi fun u v B1 H1 us Q b us' g r eb k => by
    obtain ⟨⟨x, y⟩, eu, eb⟩ := bind_some eb
    refine g_two g.bh r eu fun a' b' ra rb => k _ (p x y) (f x y) (hw a' b') eb (fun _ => ?_) (hp x y a' b' B1 H1 g ra rb) (hf x y a' b' B1 H1 g ra rb)
    rw [eu]
    rfl
end
/-! ### statements -/
structure Bs where
  P : Addr → Prop
  hd : Option Addr
  B : Hp
  H : Hp
def Bs.M (β : Bs) : Addr → Prop := fun a => β.P a ∨ β.H a = none
structure Wh (β : Bs) (B H : Hp) (ps : List Addr) (us : List U) : Prop where
  g : Gs β.P β.B β.H B H
  w : Ows β.M B H ps us
  hd : ∀ p, β.hd = some p → ps.head? = some p
section
variable {β : Bs} {B H B1 H1 : Hp} {ps : List Addr} {us us' : List U}
theorem Wh.s (W : Wh β B H ps us) : Same B H := W.g.bh
theorem Wh.at (W : Wh β B H ps us) : At B B H := At.refl W.g.bh
theorem Wh.step (W : Wh β B H ps us) (g : Gs (inP ps) B H B1 H1) (w : Ows β.M B1 H1 ps us') : Wh β B1 H1 ps us' := ⟨W.g.base g fun a ha => W.w.ms ha, w, W.hd⟩
theorem Wh.go (W : Wh β B H ps us) (g : Go B H B1 H1) : Wh β B1 H1 ps us := W.step (.of g) (W.w.go g)
theorem Wh.new (W : Wh β B H ps us) {p : Addr} {u : U} (g : Gs (inP ps) B H B1 H1) (w : Ows β.M B1 H1 ps us') (hn : H p = none) (hb : B1 p = none) (o : OwnAt B1 H1 p u) : Wh β B1 H1 (ps ++ [p]) (us' ++ [u]) :=
  ⟨(W.step g w).g, w.add (W.w.fresh hn) ⟨.inr (W.g.n p hn), o.ex, .inr ⟨hb, o⟩⟩, fun q hq => by
    have := W.hd q hq
    cases ps with
    | nil => cases this
    | cons a r => simpa using this⟩
theorem Wh.swap (W : Wh β B H ps us) {p : Addr} {u : U} {j : Nat} (hj : j < ps.length) (h0 : 0 < j ∨ β.hd = none) (g : Gs (inP ps) B H B1 H1) (w : Ows β.M B1 H1 ps us') (hn : H p = none) (hb : B1 p = none) (o : OwnAt B1 H1 p u) : Wh β B1 H1 (ps.set j p) (us'.set j u) :=
  ⟨(W.step g w).g, w.swap hj (W.w.fresh hn) ⟨.inr (W.g.n p hn), o.ex, .inr ⟨hb, o⟩⟩, fun q hq => by
    have e := W.hd q hq
    rcases h0 with h0 | h0
    · cases ps with
      | nil => cases e
      | cons a r =>
        cases j with
        | zero => omega
        | succ j => simpa using e
    · rw [h0] at hq; cases hq⟩
theorem Wh.take (W : Wh β B H ps us) (n : Nat) (h0 : 0 < n ∨ β.hd = none) : Wh β B H (ps.take n) (us.take n) := ⟨W.g, W.w.take n, fun q hq => by
    have e := W.hd q hq
    rcases h0 with h0 | h0
    · cases ps with
      | nil => cases e
      | cons a r =>
        cases n with
        | zero => omega
        | succ n => simpa using e
    · rw [h0] at hq; cases hq⟩
end
def addS {α : Type} (u : U) (G : SM α) : SM α := fun us => G (us ++ [u])
def swapS {α : Type} (j : Nat) (u : U) (G : SM α) : SM α := fun us => G (us.set j u)
def cutS' {α : Type} (n : Nat) (G : SM α) : SM α := fun us => G (us.take n)
def unpS {α : Type} (u : U) (k : U → U → SM α) : SM α := fun us => (unp2 u).bind fun ab => k ab.1 ab.2 us
def parS {α : Type} (xs : List U) (k : U → U → SM α) : SM α := match xs with
  | [x, y] => k x y
  | _ => pureS none
def setLS (j : Nat) (i y : U) : SM U := fun us => match us[j]?, i with
  | some (.frl xs), .int k => (ixN xs.length k).map fun n => (.non, us.set j (.frl (xs.set n y)))
  | _, _ => none
def putU {κ : Type} [DecidableEq κ] (kvs : List (κ × U)) (k : κ) (v : U) : List (κ × U) :=
  if (kvs.any fun kv => decide (kv.1 = k)) = true then kvs.map (fun kv => if kv.1 = k then (kv.1, v) else kv) else kvs ++ [(k, v)]
def putS (j : Nat) (k y : U) : SM U := fun us => match us[j]? with
  | some (.dic kvs) => k.key.bind fun kk => if kvs.length < lim then some (.non, us.set j (.dic (putU kvs kk y))) else none
  | some (.dit kvs) => match k with
    | .tup ys => (keysL ys).bind fun kk => if kvs.length < lim then some (.non, us.set j (.dit (putU kvs kk y))) else none
    | _ => none
  | _ => none
theorem Rps.set {B : Hp} {x : U} {v : V} (h : Rp B x v) : ∀ {xs : List U} {vs : List V} (n : Nat), Rps B xs vs → Rps B (xs.set n x) (vs.set n v)
  | _, _, _, .nil => .nil
  | _, _, 0, .cons _ t => .cons h t
  | _, _, n + 1, .cons h1 t => .cons h1 (Rps.set h n t)
section
variable {B : Hp} {x : U} {v : V}
theorem Rpk.any (k : Key) : ∀ {kvs : List (Key × U)} {es : List (Key × V)}, Rpk B kvs es → (es.any fun kv => decide (kv.1 = k)) = (kvs.any fun kv => decide (kv.1 = k))
  | _, _, .nil => rfl
  | _, _, .cons _ t => by rw [List.any_cons, List.any_cons, Rpk.any k t]
theorem Rpk.repl (h : Rp B x v) (k : Key) : ∀ {kvs : List (Key × U)} {es : List (Key × V)}, Rpk B kvs es → Rpk B (kvs.map fun kv => if kv.1 = k then (kv.1, x) else kv) (es.map fun kv => if kv.1 = k then (kv.1, v) else kv)
  | _, _, .nil => .nil
  | _, _, @Rpk.cons _ _ k' y w kvs es r t => by
    rw [List.map_cons, List.map_cons]
    by_cases e : k' = k
    · simp only [e, if_true]; exact .cons h (Rpk.repl h k t)
    · simp only [e, if_false]; exact .cons r (Rpk.repl h k t)
theorem Rpk.snoc (h : Rp B x v) (k : Key) : ∀ {kvs : List (Key × U)} {es : List (Key × V)}, Rpk B kvs es → Rpk B (kvs ++ [(k, x)]) (es ++ [(k, v)])
  | _, _, .nil => .cons h .nil
  | _, _, .cons r t => .cons r (Rpk.snoc h k t)
theorem Rpk.put (h : Rp B x v) (k : Key) {kvs : List (Key × U)} {es : List (Key × V)} (r : Rpk B kvs es) : Rpk B (putU kvs k x) (putK es k v) := by
  unfold putU putK
  rw [r.any k]
  split
  · exact r.repl h k
  · exact r.snoc h k
theorem Rpt.any (k : List Key) : ∀ {kvs : List (List Key × U)} {es : List (List Key × V)}, Rpt B kvs es → (es.any fun kv => decide (kv.1 = k)) = (kvs.any fun kv => decide (kv.1 = k))
  | _, _, .nil => rfl
  | _, _, .cons _ t => by rw [List.any_cons, List.any_cons, Rpt.any k t]
theorem Rpt.repl (h : Rp B x v) (k : List Key) : ∀ {kvs : List (List Key × U)} {es : List (List Key × V)}, Rpt B kvs es → Rpt B (kvs.map fun kv => if kv.1 = k then (kv.1, x) else kv) (es.map fun kv => if kv.1 = k then (kv.1, v) else kv)
  | _, _, .nil => .nil
  | _, _, @Rpt.cons _ _ k' y w kvs es r t => by
    rw [List.map_cons, List.map_cons]
    by_cases e : k' = k
    · simp only [e, if_true]; exact .cons h (Rpt.repl h k t)
    · simp only [e, if_false]; exact .cons r (Rpt.repl h k t)
theorem Rpt.snoc (h : Rp B x v) (k : List Key) : ∀ {kvs : List (List Key × U)} {es : List (List Key × V)}, Rpt B kvs es → Rpt B (kvs ++ [(k, x)]) (es ++ [(k, v)])
  | _, _, .nil => .cons h .nil
  | _, _, .cons r t => .cons r (Rpt.snoc h k t)
theorem Rpt.put (h : Rp B x v) (k : List Key) {kvs : List (List Key × U)} {es : List (List Key × V)} (r : Rpt B kvs es) : Rpt B (putU kvs k x) (putK es k v) := by
  unfold putU putK
  rw [r.any k]
  split
  · exact r.repl h k
  · exact r.snoc h k
theorem Rpt.length {B : Hp} : ∀ {xs : List (List Key × U)} {vs : List (List Key × V)}, Rpt B xs vs → vs.length = xs.length
  | _, _, .nil => rfl
  | _, _, .cons _ t => by rw [List.length_cons, List.length_cons, Rpt.length t]
end
section
variable {α : Type} {R : α × List U} {Rr : U × List U} {β : Bs} {σ : St} {B H : Hp} {ps : List Addr} {us : List U} {K : PySem.W.Frag} {te tb ty tv : TE} {t : TT} {tu tw tz : TS} {D : Ends} {F G : SM U} {i j jj : Nat} {p : Addr}
theorem q_retS (W : Wh β B H ps us) (h : EvS β.M ps σ B te F) (e : F us = some Rr) (k : ∀ v B2 H2 ps2, Wh β B2 H2 ps2 Rr.2 → Rp B2 Rr.1 v → D.rt v H2) : tSeq (tRet te) tz D σ H :=
  h _ _ _ e B H W.at W.w _ fun v B2 H2 g2 r2 w2 => k v B2 H2 ps (W.step g2 w2) r2
theorem q_retN (W : Wh β B H ps us) (h : EvN β.M ps σ B te F) (e : F us = some Rr) (k : ∀ p B2 H2 ps2, Wh β B2 H2 ps2 Rr.2 → β.H p = none → B2 p = none → OwnAt B2 H2 p Rr.1 → D.rt (.ref p) H2) : tSeq (tRet te) tz D σ H :=
  h _ _ _ e B H W.at W.w _ fun p B2 H2 g2 n2 b2 o2 w2 => k p B2 H2 ps (W.step g2 w2) (W.g.n p n2) b2 o2
theorem q_asgS {f : U → SM α} (W : Wh β B H ps us) (h : EvS β.M ps σ B te F) (e : bindS F f us = some R) (k : ∀ x v B1 H1 us1, Wh β B1 H1 ps us1 → Same B B1 → Rp B1 x v → f x us1 = some R → tz D (σ.set i (some v)) H1) : tSeq (tAsg te (gName i)) tz D σ H := by
  obtain ⟨x, us1, ex, e⟩ := bindS_some e
  exact h _ _ _ ex B H W.at W.w _ fun v B2 H2 g2 r2 w2 => k x v B2 H2 us1 (W.step g2 w2) g2.b r2 e
theorem q_exprS {f : U → SM α} (W : Wh β B H ps us) (h : EvS β.M ps σ B te F) (e : bindS F f us = some R) (k : ∀ x B1 H1 us1, Wh β B1 H1 ps us1 → Same B B1 → f x us1 = some R → tz D σ H1) : tSeq (tDrop te) tz D σ H := by
  obtain ⟨x, us1, ex, e⟩ := bindS_some e
  exact h _ _ _ ex B H W.at W.w _ fun v B2 H2 g2 r2 w2 => k x B2 H2 us1 (W.step g2 w2) g2.b e
theorem q_twoS {f : U → U → SM α} (W : Wh β B H ps us) (h : EvS β.M ps σ B te F) (e : bindS F (fun u => unpS u f) us = some R) (k : ∀ x y v w B1 H1 us1, Wh β B1 H1 ps us1 → Same B B1 → Rp B1 x v → Rp B1 y w → f x y us1 = some R → tz D ((σ.set i (some v)).set j (some w)) H1) :
    tSeq (tAsg te (gTup K 2 (gCons (gName i) (gCons (gName j) gNil)))) tz D σ H := by
  obtain ⟨u, us1, eu, e⟩ := bindS_some e
  obtain ⟨⟨x, y⟩, exy, e⟩ := bind_some e
  exact h _ _ _ eu B H W.at W.w _ fun v B2 H2 g2 r2 w2 => g_two g2.bh r2 exy fun a b ra rb => k x y a b B2 H2 us1 (W.step g2 w2) g2.b ra rb e
theorem q_parS {ta : TA} {F : SM (List U)} {f : U → U → SM α} (W : Wh β B H ps us) (h : EvAS β.M ps σ B ta F) (e : bindS F (fun xs => parS xs f) us = some R) (k : ∀ x y v w B1 H1 us1, Wh β B1 H1 ps us1 → Same B B1 → Rp B1 x v → Rp B1 y w → f x y us1 = some R → tz D ((σ.set i (some v)).set j (some w)) H1) :
    tSeq (tPar i j ta) tz D σ H := by
  obtain ⟨xs, us1, eu, e⟩ := bindS_some e
  match xs, eu, e with
  | [x, y], eu, e =>
    refine h _ _ _ eu B H W.at W.w _ fun vs B2 H2 g2 r2 w2 => ?_
    cases r2 with
    | cons r1 t =>
      cases t with
      | cons r2 t =>
        cases t
        exact ⟨_, _, rfl, k x y _ _ B2 H2 us1 (W.step g2 w2) g2.b r1 r2 e⟩
  | [], _, e => cases e
  | [_], _, e => cases e
  | _ :: _ :: _ :: _, _, e => cases e
theorem q_ifS {c : SM Bool} {m1 m2 : SM α} (W : Wh β B H ps us) (h : EvTS β.M ps σ B t c) (e : ifS c m1 m2 us = some R) (h1 : ∀ B1 H1 us1, Wh β B1 H1 ps us1 → Same B B1 → m1 us1 = some R → tu { D with nx := tz D } σ H1) (h2 : ∀ B1 H1 us1, Wh β B1 H1 ps us1 → Same B B1 → m2 us1 = some R → tw { D with nx := tz D } σ H1) :
    tSeq (tIfS t tu tw) tz D σ H := by
  obtain ⟨x, us1, ex, e⟩ := bindS_some e
  refine h _ _ _ ex B H W.at W.w _ fun B2 H2 g2 w2 => ?_
  cases x with
  | true => exact h1 B2 H2 us1 (W.step g2 w2) g2.b e
  | false => exact h2 B2 H2 us1 (W.step g2 w2) g2.b e
theorem q_forS {wi : TI} {g : TG} {F : SM (List U)} {L : List U → SM α} (W : Wh β B H ps us) (hi : EvIS β.M ps σ B wi F) (e : bindS F L us = some R)
    (k : ∀ xs B2 H2 us1, Wh β B2 H2 ps us1 → Same B B2 → L xs us1 = some R → ∃ Rl : List U → St → Hp → Hp → Prop, Rl xs σ B2 H2 ∧ (∀ l σ' B' H', Rl l σ' B' H' → Same B2 B' ∧ Same B' H') ∧
      (∀ u l v σ' B' H' B'' H'', Rl (u :: l) σ' B' H' → Go B' H' B'' H'' → Rp B'' u v → g v σ' H'' fun σ2 H3 => tu { D with nx := fun σ3 H4 => ∃ B4, Rl l σ3 B4 H4, ct := fun σ3 H4 => ∃ B4, Rl l σ3 B4 H4, bk := tz D } σ2 H3) ∧
      (∀ σ' B' H', Rl [] σ' B' H' → tz D σ' H')) : tSeq (tFor wi g tu) tz D σ H := by
  obtain ⟨xs, us1, exs, e⟩ := bindS_some e
  refine hi _ _ _ exs B H W.at W.w _ fun J B2 H2 g2 w w2 => ?_
  obtain ⟨Rl, r0, rs, rt, rd⟩ := k xs B2 H2 us1 (W.step g2 w2) g2.b e
  have w' : Walk J xs.length (fun H' => Same B2 H') (J.yld) := ⟨w.goes, w.stops, fun _ _ _ _ _ _ y => y⟩
  refine for_it (D := { D with nx := tz D }) w' (fun i σ' H' => ∃ B', Rl (xs.drop i) σ' B' H') ⟨B2, r0⟩ (fun i σ' H' _ ⟨B', r⟩ => (rs _ _ _ _ r).1.trans (rs _ _ _ _ r).2) ?_ ?_
  · rintro i x σ' H' H'' hin ⟨B', r⟩ y
    obtain ⟨s1, s2⟩ := rs _ _ _ _ r
    obtain ⟨B'', u, g', eu, ru⟩ := w.yields i H' x H'' B' hin s1 s2 y
    rw [drop_at eu] at r
    exact rt u _ x σ' B' H' B'' H'' r g' ru
  · rintro σ' H' ⟨B', r⟩
    rw [List.drop_length] at r
    exact rd σ' B' H' r
theorem q_newS {f : SM α} (W : Wh β B H ps us) (h : EvN β.M ps σ B te F) (e : bindS F (fun u => addS u f) us = some R) (k : ∀ p B1 H1 us1, Wh β B1 H1 (ps ++ [p]) us1 → Same B B1 → f us1 = some R → tz D (σ.set i (some (.ref p))) H1) : tSeq (tAsg te (gName i)) tz D σ H := by
  obtain ⟨x, us1, ex, e⟩ := bindS_some e
  exact h _ _ _ ex B H W.at W.w _ fun p B2 H2 g2 n2 b2 o2 w2 => k p B2 H2 _ (W.new g2 w2 n2 b2 o2) g2.b e
theorem q_swapS {f : SM α} (W : Wh β B H ps us) (hj : jj < ps.length) (h0 : 0 < jj ∨ β.hd = none) (h : EvN β.M ps σ B te F) (e : bindS F (fun u => swapS jj u f) us = some R) (k : ∀ p B1 H1 us1, Wh β B1 H1 (ps.set jj p) us1 → Same B B1 → f us1 = some R → tz D (σ.set i (some (.ref p))) H1) : tSeq (tAsg te (gName i)) tz D σ H := by
  obtain ⟨x, us1, ex, e⟩ := bindS_some e
  exact h _ _ _ ex B H W.at W.w _ fun p B2 H2 g2 n2 b2 o2 w2 => k p B2 H2 _ (W.swap hj h0 g2 w2 n2 b2 o2) g2.b e
theorem setLS_do {k y : U} {v : V} {z : U} {us us' : List U} (hp : ps[jj]? = some p) (e : setLS jj k y us = some (z, us')) (w : Ows β.M B H ps us) (s : Same B H) (r : Rp B y v) {kv : V} (rk : Rp B k kv) {Q : Hp → Prop} (q : ∀ H2, Gs (inP ps) B H B H2 → Ows β.M B H2 ps us' → Q H2) : rSetL (.ref p) kv v H Q := by
  unfold setLS at e
  split at e
  · rename_i xs n eu
    obtain ⟨m, em, e⟩ := map_some e
    cases e
    cases rk
    have wp := w.at_ jj p _ hp eu
    obtain ⟨hb, vs, e1, rr⟩ := wp.own rfl
    exact ⟨p, vs, n, m, rfl, rfl, e1, by rw [rr.length]; exact em, q _ (gs_upd hp s hb) (own_upd hp w s wp.m hb ⟨_, upd_same, rr.set r m⟩)⟩
  · cases e
/-- x[i] = e, a list -/
theorem q_setL {ti : TE} {f : SM α} (W : Wh β B H ps us) (hp : ps[jj]? = some p) (hv : σ[i]? = some (some (.ref p))) (h : EvS β.M ps σ B te F) (h2 : EvS β.M ps σ B ti G) (e : bindS F (fun y => bindS G fun k => bindS (setLS jj k y) fun _ => f) us = some R) (k : ∀ B1 H1 us1, Wh β B1 H1 ps us1 → Same B B1 → f us1 = some R → tz D σ H1) :
    tSeq (tAsg te (gSub (tVar i) ti rSetL)) tz D σ H := by
  obtain ⟨y, us1, ey, e⟩ := bindS_some e
  obtain ⟨kk, us2, ek, e⟩ := bindS_some e
  obtain ⟨z, us3, ez, e⟩ := bindS_some e
  refine h _ _ _ ey B H W.at W.w _ fun v B2 H2 g2 r2 w2 => ⟨_, hv, h2 _ _ _ ek B2 H2 (W.at.trs g2) w2 _ fun kv B3 H3 g3 r3 w3 => ?_⟩
  exact setLS_do hp ez w3 g3.bh (r2.upA g3.at) r3 fun H4 g4 w4 => k B3 H4 us3 (W.step ((g2.trans g3).trans g4) w4) (g2.b.trans g3.b) e
/-- x[i], d = e -/
theorem q_setTwo {ti : TE} {f : U → SM α} (W : Wh β B H ps us) (hp : ps[jj]? = some p) (hv : σ[i]? = some (some (.ref p))) (h : EvS β.M ps σ B te F) (h2 : EvS β.M ps σ B ti G) (e : bindS F (fun u => unpS u fun x y => bindS G fun k => bindS (setLS jj k x) fun _ => f y) us = some R) (k : ∀ y v B1 H1 us1, Wh β B1 H1 ps us1 → Same B B1 → Rp B1 y v → f y us1 = some R → tz D (σ.set j (some v)) H1) :
    tSeq (tAsg te (gTup K 2 (gCons (gSub (tVar i) ti rSetL) (gCons (gName j) gNil)))) tz D σ H := by
  obtain ⟨u, us1, eu, e⟩ := bindS_some e
  obtain ⟨⟨x, y⟩, exy, e'⟩ := bind_some e
  obtain ⟨kk, us2, ek, e''⟩ := bindS_some e'
  obtain ⟨z, us3, ez, e3⟩ := bindS_some e''
  refine h _ _ _ eu B H W.at W.w _ fun v B2 H2 g2 r2 w2 => ?_
  have e0 := unp2_tup exy
  subst e0
  cases r2 with
  | @tup ad _ vs e0 r =>
    cases r with
    | cons r1 t =>
      cases t with
      | cons r2 t =>
        cases t
        refine ⟨ad, _, rfl, SqT.of (g2.bh _ _ e0), rfl, _, _, rfl, _, hv, h2 _ _ _ ek B2 H2 (W.at.trs g2) w2 _ fun kv B3 H3 g3 r3 w3 => ?_⟩
        exact setLS_do hp ez w3 g3.bh (r1.upA g3.at) r3 fun H4 g4 w4 => ⟨_, _, rfl, rfl, k y _ B3 H4 us3 (W.step ((g2.trans g3).trans g4) w4) (g2.b.trans g3.b) (r2.upA g3.at) e3⟩
/-- d[k] = e, a dict -/
theorem q_dput {f : SM α} (W : Wh β B H ps us) (hp : ps[jj]? = some p) (hv : σ[i]? = some (some (.ref p))) (h : EvS β.M ps σ B tv F) (h2 : EvS β.M ps σ B ty G) (e : bindS F (fun y => bindS G fun k => bindS (putS jj k y) fun _ => f) us = some R) (k : ∀ B1 H1 us1, Wh β B1 H1 ps us1 → Same B B1 → f us1 = some R → tz D σ H1) :
    tSeq (sDPut (tVar i) ty tv) tz D σ H := by
  obtain ⟨y, us1, ey, e⟩ := bindS_some e
  obtain ⟨kk, us2, ek, e⟩ := bindS_some e
  obtain ⟨z, us3, ez, e⟩ := bindS_some e
  refine h _ _ _ ey B H W.at W.w _ fun v B2 H2 g2 r2 w2 => ⟨_, hv, h2 _ _ _ ek B2 H2 (W.at.trs g2) w2 _ fun kv B3 H3 g3 r3 w3 => ?_⟩
  have r2 := r2.upA g3.at
  unfold putS at ez
  split at ez
  · rename_i kvs eu
    obtain ⟨kq, ekq, ez⟩ := bind_some ez
    split at ez
    · rename_i hl
      cases ez
      have wp := w3.at_ jj p _ hp eu
      obtain ⟨hb, es, e1, rr⟩ := wp.own rfl
      exact ⟨p, _, rfl, .inl ⟨es, kq, e1, r3.key ekq, lim_lt (by rw [rr.length]; exact Nat.le_of_lt hl), rfl⟩, k B3 _ _ (W.step ((g2.trans g3).trans (gs_upd hp g3.bh hb)) (own_upd (u := U.dic (putU kvs kq y)) hp w3 g3.bh wp.m hb ⟨_, upd_same, rr.put r2 kq⟩)) (g2.b.trans g3.b) e⟩
    · cases ez
  · rename_i kvs eu
    split at ez
    · rename_i ys
      obtain ⟨kq, ekq, ez⟩ := bind_some ez
      split at ez
      · rename_i hl
        cases ez
        have wp := w3.at_ jj p _ hp eu
        obtain ⟨hb, es, e1, rr⟩ := wp.own rfl
        cases r3 with
        | @tup bb _ ws eb rb =>
          have hk := rb.keys ekq
          exact ⟨p, _, rfl, .inr ⟨es, kq, bb, e1, rfl, by rw [← hk]; exact g3.bh _ _ eb, lim_lt (by rw [rr.length]; exact Nat.le_of_lt hl), rfl⟩, k B3 _ _ (W.step ((g2.trans g3).trans (gs_upd hp g3.bh hb)) (own_upd (u := U.dit (putU kvs kq y)) hp w3 g3.bh wp.m hb ⟨_, upd_same, rr.put r2 kq⟩)) (g2.b.trans g3.b) e⟩
      · cases ez
    · cases ez
  · cases ez
end
/-! ### a def's arguments -/
def finS (o : Option (U × List U)) : Option (U × U) := o.bind fun R => match R.2 with
  | u :: _ => if u.own = true then some (R.1, u) else none
  | [] => none
def runS (F : SM U) : Option U := (F []).map Prod.fst
def b0 (f : SM U) : U → List U → Option (U × U)
  | u, [] => finS (f [u])
  | _, _ => none
def b1 (f : U → SM U) : U → List U → Option (U × U)
  | u, [x] => finS (f x [u])
  | _, _ => none
def b2 (f : U → U → SM U) : U → List U → Option (U × U)
  | u, [x, y] => finS (f x y [u])
  | _, _ => none
def b3 (f : U → U → U → SM U) : U → List U → Option (U × U)
  | u, [x, y, z] => finS (f x y z [u])
  | _, _ => none
def b4 (f : U → U → U → U → SM U) : U → List U → Option (U × U)
  | u, [x, y, z, t] => finS (f x y z t [u])
  | _, _ => none
section
variable {vs : List V} {H : Hp} {Q : VK} {E : XK}
/-- the base of a def that changes the object at p -/
abbrev bsM (B H : Hp) (p : Addr) : Bs := ⟨fun a => a = p, some p, B, H⟩
abbrev bsU (B H : Hp) : Bs := ⟨fun _ => False, none, B, H⟩
theorem wh_pure {B : Hp} (s : Same B H) : Wh (bsU B H) B H [] [] := ⟨.refl s, ows_nil, fun p h => nomatch h⟩
theorem Wh.pure {B B2 H2 : Hp} {ps : List Addr} {us : List U} (W : Wh (bsU B H) B2 H2 ps us) : Go B H B2 H2 := W.g.go
theorem wh_first {B : Hp} {p : Addr} {u : U} (s : Same B H) (hb : B p = none) (o : OwnAt B H p u) : Wh (bsM B H p) B H [p] [u] :=
  ⟨.refl s, ⟨rfl, fun i j q h1 h2 => by
      have a1 := (List.getElem?_eq_some_iff.mp h1).1
      have a2 := (List.getElem?_eq_some_iff.mp h2).1
      simp at a1 a2; omega, fun j q v hq hv => by
      have a1 := (List.getElem?_eq_some_iff.mp hq).1
      have : j = 0 := by simp at a1; omega
      subst this
      cases hq; cases hv
      exact ⟨.inl rfl, o.ex, .inr ⟨hb, o⟩⟩⟩, fun q h => h⟩
theorem fin_of {B : Hp} {p : Addr} {o : Option (U × List U)} {r u' : U} (e : finS o = some (r, u')) (k : ∀ v B2 H2, Gs (fun a => a = p) B H B2 H2 → B2 p = none → OwnAt B2 H2 p u' → Rp B2 r v → Q v H2) :
    ∃ R, o = some R ∧ ∀ v B2 H2 ps2, Wh (bsM B H p) B2 H2 ps2 R.2 → Rp B2 R.1 v → Q v H2 := by
  obtain ⟨R, eR, e⟩ := bind_some e
  refine ⟨R, eR, fun v B2 H2 ps2 W r2 => ?_⟩
  split at e
  · rename_i u0 rest hR
    split at e
    · rename_i ho
      cases e
      have hd := W.hd p rfl
      cases ps2 with
      | nil => cases hd
      | cons q ps2 =>
        cases hd
        have wp := W.w.at_ 0 p u' rfl (by rw [hR]; rfl)
        obtain ⟨hb, ow⟩ := wp.own ho
        exact k v B2 H2 W.g hb ow r2
    · cases e
  · cases e
theorem ss0 {f : SM U} (h : spS (b0 f) vs H Q E) : ∃ B p u R, vs = [.ref p] ∧ Same B H ∧ Wh (bsM B H p) B H [p] [u] ∧ f [u] = some R ∧ ∀ v B2 H2 ps2, Wh (bsM B H p) B2 H2 ps2 R.2 → Rp B2 R.1 v → Q v H2 := by
  obtain ⟨B, p, ws, u, xs, r, u', s, ev, hb, o, rs, e, k⟩ := h
  match xs, rs, e with
  | [], .nil, e =>
    obtain ⟨R, eR, k⟩ := fin_of e k
    exact ⟨B, p, u, R, ev, s, wh_first s hb o, eR, k⟩
theorem ss1 {f : U → SM U} (h : spS (b1 f) vs H Q E) : ∃ B p u x v R, vs = [.ref p, v] ∧ Same B H ∧ Wh (bsM B H p) B H [p] [u] ∧ Rp B x v ∧ f x [u] = some R ∧ ∀ v B2 H2 ps2, Wh (bsM B H p) B2 H2 ps2 R.2 → Rp B2 R.1 v → Q v H2 := by
  obtain ⟨B, p, ws, u, xs, r, u', s, ev, hb, o, rs, e, k⟩ := h
  match xs, rs, e with
  | [x], .cons r1 .nil, e =>
    obtain ⟨R, eR, k⟩ := fin_of e k
    exact ⟨B, p, u, x, _, R, ev, s, wh_first s hb o, r1, eR, k⟩
theorem ss2 {f : U → U → SM U} (h : spS (b2 f) vs H Q E) : ∃ B p u x y v w R, vs = [.ref p, v, w] ∧ Same B H ∧ Wh (bsM B H p) B H [p] [u] ∧ Rp B x v ∧ Rp B y w ∧ f x y [u] = some R ∧ ∀ v B2 H2 ps2, Wh (bsM B H p) B2 H2 ps2 R.2 → Rp B2 R.1 v → Q v H2 := by
  obtain ⟨B, p, ws, u, xs, r, u', s, ev, hb, o, rs, e, k⟩ := h
  match xs, rs, e with
  | [x, y], .cons r1 (.cons r2 .nil), e =>
    obtain ⟨R, eR, k⟩ := fin_of e k
    exact ⟨B, p, u, x, y, _, _, R, ev, s, wh_first s hb o, r1, r2, eR, k⟩
theorem ss3 {f : U → U → U → SM U} (h : spS (b3 f) vs H Q E) : ∃ B p u x y z v w t R, vs = [.ref p, v, w, t] ∧ Same B H ∧ Wh (bsM B H p) B H [p] [u] ∧ Rp B x v ∧ Rp B y w ∧ Rp B z t ∧ f x y z [u] = some R ∧ ∀ v B2 H2 ps2, Wh (bsM B H p) B2 H2 ps2 R.2 → Rp B2 R.1 v → Q v H2 := by
  obtain ⟨B, p, ws, u, xs, r, u', s, ev, hb, o, rs, e, k⟩ := h
  match xs, rs, e with
  | [x, y, z], .cons r1 (.cons r2 (.cons r3 .nil)), e =>
    obtain ⟨R, eR, k⟩ := fin_of e k
    exact ⟨B, p, u, x, y, z, _, _, _, R, ev, s, wh_first s hb o, r1, r2, r3, eR, k⟩
/-- a plain def with objects of its own: from what it comes to -/
theorem runS_some {f : SM U} {r : U} (h : runS f = some r) : ∃ R, f [] = some R ∧ R.1 = r := map_some h
end
end Dn
set_option Elab.async false
set_option linter.all false
set_option maxRecDepth 100000
set_option maxHeartbeats 2000000
namespace Dn
open PySem L2
variable [CTab]
/-! ### iterating: lists, tuples, the keys of a dict -/
def U.iter : U → Option (List U)
  | .lst xs => some xs
  | .tup xs => some xs
  | .tpd xs => some xs
  | .frl xs => some xs
  | .dic kvs => some (kvs.map fun kv => kU kv.1)
  | _ => none
def iAny (K : PySem.W.Frag) (tl : TE) : TI := fun σ H R => tl σ H fun x H1 => (∃ a, x = .ref a ∧ (∃ xs, SqL K H1 a xs) ∧ R (Itl K a) H1) ∨ (∃ a, x = .ref a ∧ (∃ xs, SqT K H1 a xs) ∧ R (Itt K a) H1) ∨
  (∃ d o kvs, x = .ref d ∧ H1 d = some (.frz o (.dK kvs)) ∧ R (Itk d o kvs) H1)
theorem pi_any {X : Cx} {tg l : Expr} {tl : TE} (hl : PE X l tl) : PI X tg l (iAny X.K tl) := by
  refine ⟨fun pins s σ H R I h => ?_⟩
  refine thn (hl.run pins s σ H _ I h) fun v s1 ⟨x, H1, I1, r1, q1⟩ => ?_
  rcases q1 with ⟨a, e, ⟨xs, hq⟩, q⟩ | ⟨a, e, ⟨xs, hq⟩, q⟩ | ⟨d, o, kvs, e, hd, q⟩
  · subst e
    cases r1
    obtain ⟨its, rv, p, hz⟩ := I1.list hq
    refine wpAny_pyIter_list p.isList ?_
    refine ⟨s1.heap.objs.size, [s1.heap.objs.size], _, _, H1, rfl, I1.kept (t' := s1.toks) fun b o e => Heap.get?_push_of_some _ e, turn_list a _, ⟨_, Heap.get?_push_size _ rfl, rfl, rfl⟩, fun b hb => ?_, q⟩
    have e : b = s1.heap.objs.size := by simpa using hb
    subst e
    exact I1.fpOk (Nat.le_refl _) (I1.hok.fresh (Nat.le_refl _))
  · subst e
    cases r1
    obtain ⟨its, rv, p, hz⟩ := I1.tuple hq
    refine wpAny_pyIter_tuple (show s1.heap.IsTuple a its.toArray from p) ?_
    refine ⟨s1.heap.objs.size, [s1.heap.objs.size], _, _, H1, rfl, I1.kept (t' := s1.toks) fun b o e => Heap.get?_push_of_some _ e, turn_tuple a _, ⟨_, Heap.get?_push_size _ rfl, rfl, rfl⟩, fun b hb => ?_, q⟩
    have e : b = s1.heap.objs.size := by simpa using hb
    subst e
    exact I1.fpOk (Nat.le_refl _) (I1.hok.fresh (Nat.le_refl _))
  · subst e
    cases r1
    obtain ⟨hs, hgd, hx, es, ep, vs, hdt, hsz, kv, hm⟩ := I1.frzK hd
    refine L2.iter_keys hs hgd hx hdt (pi_one (tk := s1.toks) I1 _ (turn_keys _ hdt) ⟨_, Heap.get?_push_size _ rfl, rfl, ?_⟩ q)
    rw [hsz] <;> rfl
theorem Rpk.at {B : Hp} : ∀ {xs : List (Key × U)} {vs : List (Key × V)} {i : Nat} {k : Key} {v : V}, Rpk B xs vs → vs[i]? = some (k, v) → ∃ x, xs[i]? = some (k, x) ∧ Rp B x v
  | _, _, _, _, _, .nil, e => by simp at e
  | _, _, 0, _, _, .cons h _, e => by simp at e; obtain ⟨rfl, rfl⟩ := e; exact ⟨_, rfl, h⟩
  | _, _, i + 1, k, v, .cons _ t, e => by
    obtain ⟨x, h1, h2⟩ := Rpk.at (i := i) (k := k) (v := v) t (by simpa using e)
    exact ⟨x, by simpa using h1, h2⟩
section
variable {σ : St} {B H : Hp} {te tl ta tb : TE} {oa ob : Option U} {K : PySem.W.Frag}
theorem ei_any (h : EvO tl σ B H oa) : EvI (iAny K tl) σ B H (oa.bind U.iter) := fun xs e B1 H1 g R q => by
  obtain ⟨x, ex, e⟩ := bind_some e
  refine h x ex B1 H1 g _ fun v B2 H2 g2 r => ?_
  cases r with
  | @lst a ys vs h r =>
    cases e
    exact .inl ⟨a, rfl, ⟨vs, SqL.of (g2.bh _ _ h)⟩, q _ B2 H2 g2 (WalkU.of (walk_list (K := K) (a := a)) r.length (fun H s => SqL.of (s _ _ h)) r)⟩
  | @tup a ys vs h r =>
    cases e
    exact .inr (.inl ⟨a, rfl, ⟨vs, SqT.of (g2.bh _ _ h)⟩, q _ B2 H2 g2 (WalkU.of (walk_tup (K := K) (a := a)) r.length (fun H s => SqT.of (s _ _ h)) r)⟩)
  | @tpd a ys vs o h _ r =>
    cases e
    exact .inr (.inl ⟨a, rfl, ⟨_, .inl (.inr ⟨o, g2.bh _ _ h⟩)⟩, q _ B2 H2 g2 (WalkU.of (walk_tup (K := K) (a := a)) r.length (fun H s => .inl (.inr ⟨o, s _ _ h⟩)) r)⟩)
  | @frl a ys vs o h r =>
    cases e
    exact .inl ⟨a, rfl, ⟨_, .inl (.inr ⟨o, g2.bh _ _ h⟩)⟩, q _ B2 H2 g2 (WalkU.of (walk_list (K := K) (a := a)) r.length (fun H s => .inl (.inr ⟨o, s _ _ h⟩)) r)⟩
  | @dic a kvs es o h r =>
    cases e
    refine .inr (.inr ⟨a, o, es, rfl, g2.bh _ _ h, q _ B2 H2 g2 ⟨fun i H' hi s => ?_, fun H' s => ?_, fun i H' x H'' B' hi s1 s2 y => ?_⟩⟩)
    · rw [List.length_map, ← r.length] at hi
      exact (walk_keys (kvs := es)).goes i H' hi (s _ _ h)
    · rw [List.length_map, ← r.length]
      exact (walk_keys (kvs := es)).stops H' (s _ _ h)
    · rw [List.length_map, ← r.length] at hi
      obtain ⟨e1, k, v, e2, e3⟩ := (walk_keys (kvs := es)).yields i H' x H'' hi ((s1.trans s2) _ _ h) y
      subst e1 e3
      obtain ⟨x, ex, _⟩ := r.at e2
      exact ⟨B', kU k, Go.refl s2, by simp [ex], rp_key k⟩
  | _ => cases e
end
section
variable {M : Addr → Prop} {ps : List Addr} {σ : St} {B H : Hp} {te : TE} {F : SM U} {K : PySem.W.Frag}
def iterS (F : SM U) : SM (List U) := bindS F fun x => pureS x.iter
theorem eis_any (h : EvS M ps σ B te F) : EvIS M ps σ B (iAny K te) (iterS F) := fun us xs us' e B1 H1 g w R q => by
  obtain ⟨x, us1, ex, e⟩ := bindS_some e
  obtain ⟨ee, rfl⟩ := pureS_some e; clear e; have e := ee; clear ee
  refine h _ _ _ ex B1 H1 g w _ fun v B2 H2 g2 r w2 => ?_
  have h2 : EvO (fun _ H Q => Q v H) σ B2 H2 (some x) := fun z ez B3 H3 g3 Q q => by cases ez; exact q v B3 H3 (Go.refl g3.bh) (r.upA g3)
  exact ei_any h2 xs (by simpa using e) B2 H2 (At.refl g2.bh) R fun J B3 H3 g3 wk => q J B3 H3 (g2.trans (.of g3)) wk (w2.go g3)
end
/-! ### list(..) of a list, a tuple, a dict -/
theorem call_listB {X : Cx} (hc : X.calm = true) : CallR X (.type "list") (fun xs H Q => (∃ p ys, xs = [.ref p] ∧ (SqL X.K H p ys ∨ SqT X.K H p ys) ∧ ∀ l, H l = none → Q (.ref l) (upd H l (.lst ys))) ∨
    ∃ (a : Addr) (kvs : List (Key × V)), xs = [.ref a] ∧ Rd H a (.dK kvs) ∧ ∀ p, H p = none → Q (.ref p) (upd H p (.lst (kvs.map fun kv => kV kv.1)))) := CallR.or call_list_of (call_listD hc)
theorem Rpk.keysU {B : Hp} : ∀ {xs : List (Key × U)} {vs : List (Key × V)}, Rpk B xs vs → Rps B (xs.map fun kv => kU kv.1) (vs.map fun kv => kV kv.1)
  | _, _, .nil => .nil
  | _, _, .cons _ t => .cons (rp_key _) (Rpk.keysU t)
def listB : U → Option U := fun x => x.iter.map U.lst
/-- the same, new -/
def listNB : U → Option U := fun x => x.iter.map U.frl
theorem iter_call {K : PySem.W.Frag} {x : U} {xs : List U} (e : x.iter = some xs) {v : V} {B H : Hp} (s : Same B H) (rx : Rp B x v) {Q : VK} (q : ∀ p vs, H p = none → Rps B xs vs → Q (.ref p) (upd H p (.lst vs))) :
    (∃ p ys, [v] = [V.ref p] ∧ (SqL K H p ys ∨ SqT K H p ys) ∧ ∀ l, H l = none → Q (.ref l) (upd H l (.lst ys))) ∨
    ∃ (a : Addr) (kvs : List (Key × V)), [v] = [V.ref a] ∧ Rd H a (.dK kvs) ∧ ∀ p, H p = none → Q (.ref p) (upd H p (.lst (kvs.map fun kv => kV kv.1))) := by
  cases rx with
  | @lst a xs vs h r => cases e; exact .inl ⟨a, vs, rfl, .inl (SqL.of (s _ _ h)), fun p hp => q _ _ hp r⟩
  | @tup a xs vs h r => cases e; exact .inl ⟨a, vs, rfl, .inr (SqT.of (s _ _ h)), fun p hp => q _ _ hp r⟩
  | @tpd a xs vs o h _ r => cases e; exact .inl ⟨a, vs, rfl, .inr (.inl (.inr ⟨o, s _ _ h⟩)), fun p hp => q _ _ hp r⟩
  | @frl a xs vs o h r => cases e; exact .inl ⟨a, vs, rfl, .inl (.inl (.inr ⟨o, s _ _ h⟩)), fun p hp => q _ _ hp r⟩
  | @dic a kvs es o h r => cases e; exact .inr ⟨a, es, rfl, .inr ⟨o, s _ _ h⟩, fun p hp => q _ _ hp r.keysU⟩
  | _ => cases e
theorem rc_listB {K : PySem.W.Frag} : RC (fun xs H Q => (∃ p ys, xs = [V.ref p] ∧ (SqL K H p ys ∨ SqT K H p ys) ∧ ∀ l, H l = none → Q (.ref l) (upd H l (.lst ys))) ∨
    ∃ (a : Addr) (kvs : List (Key × V)), xs = [V.ref a] ∧ Rd H a (.dK kvs) ∧ ∀ p, H p = none → Q (.ref p) (upd H p (.lst (kvs.map fun kv => kV kv.1)))) (c1 listB) := rc_one c1_one fun x z e v B H s rx Q q => by
  obtain ⟨xs, ex, e⟩ := map_some (show x.iter.map U.lst = some z from e)
  subst e
  exact iter_call ex s rx fun p vs hp r => q _ _ _ (Go.new s hp) (.lst upd_same (r.new s hp))
section
variable {M : Addr → Prop} {ps : List Addr} {σ : St} {B H : Hp} {te : TE} {tl : TA} {F : SM U} {K : PySem.W.Frag}
theorem en_listB {F : SM (List U)} (ha : EvAS M ps σ B tl F) : EvN M ps σ B (tCB (fun xs H Q => (∃ p ys, xs = [V.ref p] ∧ (SqL K H p ys ∨ SqT K H p ys) ∧ ∀ l, H l = none → Q (.ref l) (upd H l (.lst ys))) ∨
    ∃ (a : Addr) (kvs : List (Key × V)), xs = [V.ref a] ∧ Rd H a (.dK kvs) ∧ ∀ p, H p = none → Q (.ref p) (upd H p (.lst (kvs.map fun kv => kV kv.1)))) tl) (callS (c1 listNB) F) := fun us z us' e B1 H1 g w Q q => by
  obtain ⟨x, us1, ex, e⟩ := bindS_some e
  obtain ⟨ee, rfl⟩ := pureS_some e; clear e; have e := ee; clear ee
  obtain ⟨x1, rfl⟩ := c1_one _ _ e
  obtain ⟨xs, exs, e⟩ := map_some (show x1.iter.map U.frl = some z from e)
  subst e
  refine ha _ _ _ ex B1 H1 g w _ fun vs B2 H2 g2 r w2 => ?_
  cases r with
  | cons r1 t =>
    cases t
    exact iter_call exs g2.bh r1 fun p vs hp r => q p B2 _ (g2.trans (.of (Go.own g2.bh hp))) (g2.n p hp) (g2.bh.free hp) (OwnAt.new r) (w2.go (Go.own g2.bh hp))
end
/-! ### text -/
def strsU : List U → Option (List Str)
  | [] => some []
  | .str s :: r => (strsU r).map fun z => s :: z
  | _ :: _ => none
theorem Rps.strs {B : Hp} : ∀ {xs : List U} {vs : List V} {ss : List Str}, Rps B xs vs → strsU xs = some ss → vs = ss.map V.str
  | _, _, _, .nil, h => by cases h; rfl
  | _, _, _, .cons (.str s) t, h => by
    obtain ⟨z, ez, h⟩ := map_some h
    subst h
    rw [List.map_cons, t.strs ez]
theorem Rps.ofStrs {B : Hp} : ∀ (ss : List Str), Rps B (ss.map U.str) (ss.map V.str)
  | [] => .nil
  | _ :: r => .cons (.str _) (Rps.ofStrs r)
def splitV : U → U → Option U
  | .str a, .str b => if b.length ≠ 0 ∧ a.length ≤ lim then some (.lst ((Txt.split a b).map U.str)) else none
  | _, _ => none
def joinV : U → U → Option U
  | .str a, x => match x with
    | .lst xs => (strsU xs).bind fun ss => if (ss.map (·.length)).sum + ss.length * a.length ≤ 16777216 then some (.str (Txt.join a ss)) else none
    | .tup xs => (strsU xs).bind fun ss => if (ss.map (·.length)).sum + ss.length * a.length ≤ 16777216 then some (.str (Txt.join a ss)) else none
    | .frl xs => (strsU xs).bind fun ss => if (ss.map (·.length)).sum + ss.length * a.length ≤ 16777216 then some (.str (Txt.join a ss)) else none
    | _ => none
  | _, _ => none
theorem lim_two {n : Nat} (h : n ≤ lim) : n + 2 ≤ sizeLine := Nat.le_trans (Nat.add_le_add_right h 2) (by decide)
section
variable {σ : St} {B H : Hp} {te tl ta tb : TE} {oa ob : Option U} {K : PySem.W.Frag}
theorem eo_split (ha : EvO ta σ B H oa) (hb : EvO tb σ B H ob) : EvO (tM1 (fun x xs H Q => ∃ a b, x = .str a ∧ xs = [.str b] ∧ (b.length == 0) = false ∧ a.length + 2 ≤ sizeLine ∧ rNewStrs (Txt.split a b) H Q) ta tb) σ B H (op2 splitV oa ob) := fun z e B1 H1 g Q q => by
  obtain ⟨x, ex, e⟩ := bind_some e
  obtain ⟨y, ey, e⟩ := bind_some e
  refine ha x ex B1 H1 g _ fun v B2 H2 g2 r2 => ?_
  unfold splitV at e
  split at e
  · rename_i a b
    split at e
    · rename_i hl
      cases e
      cases r2
      refine ⟨⟨_, rfl⟩, hb _ ey B2 H2 (g.trans g2) _ fun w B3 H3 g3 r3 => ?_⟩
      cases r3
      exact ⟨_, _, rfl, rfl, by simpa using hl.1, lim_two hl.2, fun p hp => q _ _ _ ((g2.trans g3).trans (Go.new g3.bh hp)) (.lst upd_same ((Rps.ofStrs _).new g3.bh hp))⟩
    · cases e
  · cases e
theorem eo_join (ha : EvO ta σ B H oa) (hb : EvO tb σ B H ob) : EvO (tM1 (fun x xs H Q => ∃ a p, ∃ ys : List Str, x = .str a ∧ xs = [.ref p] ∧ (SqL K H p (ys.map V.str) ∨ SqT K H p (ys.map V.str)) ∧
      (ys.map (·.length)).sum + ys.length * a.length ≤ 16777216 ∧ Q (.str (Txt.join a ys)) H) ta tb) σ B H (op2 joinV oa ob) := fun z e B1 H1 g Q q => by
  obtain ⟨x, ex, e⟩ := bind_some e
  obtain ⟨y, ey, e⟩ := bind_some e
  refine ha x ex B1 H1 g _ fun v B2 H2 g2 r2 => ?_
  cases r2 with
  | str a =>
    refine ⟨⟨a, rfl⟩, hb _ ey B2 H2 (g.trans g2) _ fun w B3 H3 g3 r3 => ?_⟩
    cases r3 with
    | @lst p xs vs h r =>
      obtain ⟨ss, es, e⟩ := bind_some (show (strsU xs).bind _ = some z from e)
      split at e
      · rename_i hl
        cases e
        have := r.strs es; subst this
        exact ⟨a, p, ss, rfl, rfl, .inl (SqL.of (g3.bh _ _ h)), hl, q _ B3 H3 (g2.trans g3) (.str _)⟩
      · cases e
    | @tup p xs vs h r =>
      obtain ⟨ss, es, e⟩ := bind_some (show (strsU xs).bind _ = some z from e)
      split at e
      · rename_i hl
        cases e
        have := r.strs es; subst this
        exact ⟨a, p, ss, rfl, rfl, .inr (SqT.of (g3.bh _ _ h)), hl, q _ B3 H3 (g2.trans g3) (.str _)⟩
      · cases e
    | @frl p xs vs o h r =>
      obtain ⟨ss, es, e⟩ := bind_some (show (strsU xs).bind _ = some z from e)
      split at e
      · rename_i hl
        cases e
        have := r.strs es; subst this
        exact ⟨a, p, ss, rfl, rfl, .inl (.inl (.inr ⟨o, g3.bh _ _ h⟩)), hl, q _ B3 H3 (g2.trans g3) (.str _)⟩
      · cases e
    | _ => cases e
  | _ => cases e
/-! xs.index(y), texts -/
def idxS (y : Str) : List Str → Nat → Option Nat
  | [], _ => none
  | s :: r, n => if s = y then some n else idxS y r (n + 1)
theorem idxS_some {y : Str} : ∀ {ss : List Str} {n j : Nat}, idxS y ss n = some j → n ≤ j ∧ ss[j - n]? = some y ∧ ∀ (m : Nat) z, m < j - n → ss[m]? = some z → z ≠ y
  | [], n, j, h => by cases h
  | s :: r, n, j, h => by
    unfold idxS at h
    split at h
    · rename_i e
      cases h
      subst e
      exact ⟨Nat.le_refl _, by simp, fun m z hm => by omega⟩
    · rename_i hn
      obtain ⟨h1, h2, h3⟩ := idxS_some h
      refine ⟨by omega, ?_, fun m z hm hz => ?_⟩
      · have e : j - n = (j - (n + 1)) + 1 := by omega
        rw [e, List.getElem?_cons_succ]; exact h2
      · cases m with
        | zero => simp at hz; subst hz; exact hn
        | succ m => exact h3 m z (by omega) (by simpa using hz)
def indexV : U → U → Option U
  | .lst xs, .str y => (strsU xs).bind fun ss => (idxS y ss 0).map fun j => .int (j : Nat)
  | .frl xs, .str y => (strsU xs).bind fun ss => (idxS y ss 0).map fun j => .int (j : Nat)
  | _, _ => none
theorem index_of {a : Addr} {ss : List Str} {y : Str} {j : Nat} {H : Hp} {Q : VK} (hs : SqL K H a (ss.map V.str)) (ej : idxS y ss 0 = some j) (q : Q (.int (j : Nat)) H) : rIndex K (.ref a) [.str y] H Q := by
  obtain ⟨_, h2, h3⟩ := idxS_some ej
  refine ⟨a, _, .str y, j, .str y, rfl, rfl, hs, rfl, by simp [flatV], by simpa using h2, by simp [eqV], fun m z hm hz => ?_, q⟩
  rw [List.getElem?_map] at hz
  obtain ⟨t, et, hz⟩ := map_some hz
  subst hz
  have := h3 m t (by omega) et
  simp [eqV, this]
theorem eo_index (ha : EvO ta σ B H oa) (hb : EvO tb σ B H ob) : EvO (tBM K "list" (rIndex K) ta (tCons tb tNil)) σ B H (op2 indexV oa ob) := fun z e B1 H1 g Q q => by
  obtain ⟨x, ex, e⟩ := bind_some e
  obtain ⟨y, ey, e⟩ := bind_some e
  refine ha x ex B1 H1 g _ fun v B2 H2 g2 r2 => ?_
  cases r2 with
  | @lst a xs vs h r =>
    cases y with
    | str y =>
      obtain ⟨ss, es, e⟩ := bind_some (show (strsU xs).bind _ = some z from e)
      obtain ⟨j, ej, e⟩ := map_some e
      subst e
      have := r.strs es; subst this
      refine ⟨.inl ⟨rfl, _, SqL.of (g2.bh _ _ h)⟩, hb _ ey B2 H2 (g.trans g2) _ fun w B3 H3 g3 r3 => ?_⟩
      cases r3
      exact index_of (SqL.of (g3.bh _ _ (g3.b _ _ h))) ej (q _ B3 H3 (g2.trans g3) (.int _))
    | _ => cases e
  | @frl a xs vs o h r =>
    cases y with
    | str y =>
      obtain ⟨ss, es, e⟩ := bind_some (show (strsU xs).bind _ = some z from e)
      obtain ⟨j, ej, e⟩ := map_some e
      subst e
      have := r.strs es; subst this
      refine ⟨.inl ⟨rfl, _, .inl (.inr ⟨o, g2.bh _ _ h⟩)⟩, hb _ ey B2 H2 (g.trans g2) _ fun w B3 H3 g3 r3 => ?_⟩
      cases r3
      exact index_of (.inl (.inr ⟨o, g3.bh _ _ (g3.b _ _ h)⟩)) ej (q _ B3 H3 (g2.trans g3) (.int _))
    | _ => cases e
  | _ => cases e
/-! ### objects -/
theorem Rpf.look {B : Hp} (k : Str) : ∀ {xs : List (Str × U)} {vs : List (Str × V)}, Rpf B xs vs → (∀ x, xs.lookup k = some x → ∃ v, vs.lookup k = some v ∧ Rp B x v) ∧ (xs.lookup k = none → vs.lookup k = none)
  | _, _, .nil => ⟨fun x h => (by cases h), fun _ => rfl⟩
  | _, _, @Rpf.cons _ _ k' x v xs vs r t => by
    obtain ⟨i1, i2⟩ := Rpf.look k t
    simp only [List.lookup_cons]
    cases k == k' with
    | true => exact ⟨fun y h => by cases h; exact ⟨v, rfl, r⟩, fun h => by cases h⟩
    | false => exact ⟨i1, i2⟩
/-- x.f of an instance of the class numbered C -/
def fldV (C : Nat) (f : Str) : U → Option U
  | .obj D fs => if D = C then fs.lookup f else none
  | _ => none
theorem eo_fld {C : Nat} {f : Str} (c : Cls K (CTab.ct C)) (n : NoAttr K (CTab.ct C) f) (h : EvO ta σ B H oa) : EvO (tFld K ta f) σ B H (op1 (fldV C f) oa) := fun z e B1 H1 g Q q => by
  obtain ⟨x, ex, e⟩ := bind_some e
  refine h x ex B1 H1 g _ fun v B2 H2 g2 r => ?_
  cases r with
  | @obj a dx D fs es h1 h2 r =>
    have e2 : (if D = C then fs.lookup f else none) = some z := e
    clear e
    split at e2
    · rename_i hD
      subst hD
      obtain ⟨v, ev, rv⟩ := (r.look f).1 z e2
      exact ⟨a, _, dx, es, v, rfl, g2.bh _ _ h1, c, n, ev, q v B2 H2 g2 rv⟩
    · cases e2
  | _ => cases e
/-- x.m(..), which changes nothing -/
def methV (C : Nat) (m : Str) (f : List U → Option U) (x : U) (xs : List U) : Option U := match x with
  | .obj D fs => if D = C ∧ fs.lookup m = none then f (x :: xs) else none
  | _ => none
def noneQ {α : Type} : Option α → Bool
  | none => true
  | some _ => false
def methO (C : Nat) (m : Str) (f : List U → Option U) (a : Option U) (ol : Option (List U)) : Option U := a.bind fun x => match x with
  | .obj D fs => if D = C ∧ noneQ (fs.lookup m) = true then ol.bind fun xs => f (.obj D fs :: xs) else none
  | _ => none
theorem eo_meth {C : Nat} {m : Str} {f : List U → Option U} {E : XK} {tl : TA} {ol : Option (List U)} (h : EvO ta σ B H oa) (hl : EvA tl σ B H ol) : EvO (tMeth (CTab.ct C) m (spU f) [] E ta tl) σ B H (methO C m f oa ol) := fun z e B1 H1 g Q q => by
  obtain ⟨x, ex, e⟩ := bind_some e
  refine h x ex B1 H1 g _ fun v B2 H2 g2 r => ?_
  cases r with
  | @obj a dx D fs es h1 h2 r =>
    have e2 : (if D = C ∧ noneQ (fs.lookup m) = true then ol.bind fun xs => f (.obj D fs :: xs) else none) = some z := e
    clear e
    split at e2
    · rename_i hD
      obtain ⟨hD, hm⟩ := hD
      subst hD
      obtain ⟨xs, exs, e⟩ := bind_some e2
      have hm' : fs.lookup m = none := by
        cases q : fs.lookup m with
        | none => rfl
        | some u => rw [q] at hm; cases hm
      refine ⟨a, dx, es, rfl, g2.bh _ _ h1, (r.look m).2 hm', hl xs exs B2 H2 (g.trans g2) _ fun vs B3 H3 g3 r3 => ?_⟩
      show spU f (.ref a :: (vs ++ [])) H3 Q E
      rw [List.append_nil]
      exact ⟨B3, _, z, g3.bh, .cons ((Rp.obj h1 h2 r).up g3) r3, e, fun v B4 H4 g4 r4 => q v B4 H4 ((g2.trans g3).trans g4) r4⟩
    · cases e2
  | _ => cases e
end
end Dn
set_option Elab.async false
set_option linter.all false
set_option maxRecDepth 100000
set_option maxHeartbeats 2000000
namespace Dn
open PySem L2
variable [CTab]
def U.plc : U → Bool
  | .frl xs => U.pls xs
  | .dic kvs => kvs.all fun kv => kv.2.pl
  | .dit kvs => kvs.all fun kv => kv.2.pl
  | .non => true
  | _ => false
section
variable {B B' : Hp} {p : Addr} {od : Obj} {u0 : HO}
theorem Rpk.erase (hp : B p = some (.frz od u0)) (s : ∀ a o, B a = some o → a ≠ p → B' a = some o) : ∀ {u : List (Key × U)} {v : List (Key × V)}, Rpk B u v → (u.all fun kv => kv.2.pl) = true → Rpk B' u v
  | _, _, .nil, _ => .nil
  | _, _, .cons h r, e => by
    rw [List.all_cons, Bool.and_eq_true] at e
    exact .cons (h.erase hp s e.1) (Rpk.erase hp s r e.2)
theorem Rpt.erase (hp : B p = some (.frz od u0)) (s : ∀ a o, B a = some o → a ≠ p → B' a = some o) : ∀ {u : List (List Key × U)} {v : List (List Key × V)}, Rpt B u v → (u.all fun kv => kv.2.pl) = true → Rpt B' u v
  | _, _, .nil, _ => .nil
  | _, _, .cons h r, e => by
    rw [List.all_cons, Bool.and_eq_true] at e
    exact .cons (h.erase hp s e.1) (Rpt.erase hp s r e.2)
theorem OwnAt.erase {H H2 : Hp} {q : Addr} {u : U} (hp : B p = some (.frz od u0)) (s : ∀ a o, B a = some o → a ≠ p → B' a = some o) (o : OwnAt B H q u) (e : H2 q = H q) (h : u.plc = true) : OwnAt B' H2 q u := by
  cases u with
  | frl xs => obtain ⟨vs, h1, r⟩ := o; exact ⟨vs, e.trans h1, r.erase hp s h⟩
  | dic xs => obtain ⟨vs, h1, r⟩ := o; exact ⟨vs, e.trans h1, r.erase hp s h⟩
  | dit xs => obtain ⟨vs, h1, r⟩ := o; exact ⟨vs, e.trans h1, r.erase hp s h⟩
  | _ => exact o.elim
end
def lockS (j : Nat) (F : U → SM U) : SM U := fun us => us[j]?.bind fun u => if u.own = true then (F u (us.set j .non)).bind fun r => if r.1.pl = true ∧ r.2.all U.plc = true then some (r.1, r.2.set j u) else none else none
section
variable {M : Addr → Prop} {ps : List Addr} {σ : St} {B H : Hp} {ta tb tc te : TE} {t : TT} {tl tr : TA} {F G : SM U} {K : PySem.W.Frag} {j : Nat} {p : Addr}
theorem es_lockS {F : U → SM U} (hp : ps[j]? = some p) (h : ∀ u B', Same B B' → Rp B' u (.ref p) → EvS M ps σ B' te (F u)) : EvS M ps σ B (tLockE te) (lockS j F) := fun us z us' e B1 H1 g w Q q => by
  obtain ⟨u, eu, e⟩ := bind_some e
  split at e
  · rename_i ho
    obtain ⟨⟨z1, us2⟩, ez, e⟩ := bind_some e
    split at e
    · rename_i hz
      cases e
      have wp := w.at_ j p u hp eu
      obtain ⟨hb, ow⟩ := wp.own ho
      obtain ⟨o1, e1, mu, hl⟩ := ow.lock
      refine ⟨p, o1, e1, mu, fun od => ?_⟩
      have r1 : Rp (upd B1 p (.frz od o1)) u (.ref p) := (hl od).resolve_right (fun z => z hb)
      have s1 : Same (upd B1 p (.frz od o1)) (upd H1 p (.frz od o1)) := fun b x hx => by
        by_cases hbp : b = p
        · subst hbp; rw [upd_same] at hx ⊢; exact hx
        · rw [upd_ne hbp] at hx ⊢; exact g.bh b x hx
      have w1 : Ows M (upd B1 p (.frz od o1)) (upd H1 p (.frz od o1)) ps (us.set j .non) :=
        w.set hp (fun q _ hq o e => by rw [upd_ne hq]; exact e) (same_lock hb) (fun q _ hq hn => by rw [upd_ne hq]; exact hn) ⟨wp.m, ⟨_, upd_same⟩, .inl rfl⟩
      refine h u _ (g.b.trans (same_lock hb)) r1 _ _ _ ez _ _ (At.refl s1) w1 _ fun v B2 H2 g2 r2 w2 => ?_
      have eB : B2 p = some (.frz od o1) := g2.b _ _ upd_same
      have eH : H2 p = some (.frz od o1) := g2.bh _ _ eB
      have er : ∀ a o, B2 a = some o → a ≠ p → eraseB B2 p a = some o := fun a x hx ha => by rw [erase_ne ha]; exact hx
      have sB : Same B1 (eraseB B2 p) := fun a x hx => by
        have ha : a ≠ p := ne_of_none hx hb
        rw [erase_ne ha]; exact g2.b a x (by rw [upd_ne ha]; exact hx)
      have gg : Gs (inP ps) B1 H1 (eraseB B2 p) (upd H2 p o1) := by
        refine ⟨fun a x hx hm => ?_, fun a hx => ?_, sB, fun a x hx => ?_, fun a x hx => ?_⟩
        · have ha : a ≠ p := fun z => hm (by rw [z]; exact List.mem_of_getElem? hp)
          rw [upd_ne ha]; exact g2.h a x (by rw [upd_ne ha]; exact hx) hm
        · by_cases ha : a = p
          · subst ha; rw [upd_same] at hx; cases hx
          · rw [upd_ne ha] at hx
            have := g2.n a hx
            rwa [upd_ne ha] at this
        · by_cases ha : a = p
          · subst ha; rw [erase_same] at hx; cases hx
          · rw [erase_ne ha] at hx; rw [upd_ne ha]; exact g2.bh a x hx
        · by_cases ha : a = p
          · subst ha; rw [erase_same] at hx; cases hx
          · rw [erase_ne ha] at hx
            rcases g2.fr a x hx with z | z | z
            · rw [upd_ne ha] at z; exact .inl z
            · rw [upd_ne ha] at z; exact .inr (.inl z)
            · exact .inr (.inr z)
      have hj : j < us2.length := by rw [w2.len]; exact (List.getElem?_eq_some_iff.mp hp).1
      have wf : Ows M (eraseB B2 p) (upd H2 p o1) ps (us2.set j u) := by
        refine ⟨by rw [List.length_set, w2.len], w2.nd, fun i q v hq hv => ?_⟩
        by_cases hij : i = j
        · subst hij
          rw [hp] at hq; cases hq
          rw [List.getElem?_set_self hj] at hv; cases hv
          exact ⟨wp.m, ⟨_, upd_same⟩, .inr ⟨erase_same, ow.up (fun o e => by rw [upd_same, ← e1]; exact e) sB⟩⟩
        · rw [List.getElem?_set_ne (Ne.symm hij)] at hv
          have hne : q ≠ p := fun z => hij (w2.nd i j q hq (by rw [z]; exact hp))
          obtain ⟨q1, ⟨o, q2⟩, q3⟩ := w2.at_ i q v hq hv
          refine ⟨q1, ⟨o, by rw [upd_ne hne]; exact q2⟩, ?_⟩
          rcases q3 with q3 | ⟨q3, q4⟩
          · exact .inl q3
          · refine .inr ⟨by rw [erase_ne hne]; exact q3, q4.erase eB er (upd_ne hne) ?_⟩
            exact List.all_eq_true.mp hz.2 v (List.mem_of_getElem? hv)
      exact ⟨eH, q v _ _ gg (r2.erase eB er hz.1) wf⟩
    · cases e
  · cases e
/-! slices with a state -/
def ptS (F : SM U) : SM (Option Int) := bindS F fun x => pureS (x.asI.map some)
theorem eps_of1 (h : EvS M ps σ B te F) : EvPS M ps σ B (tPart te) (ptS F) := fun us z us' e B1 H1 g w Q q => by
  obtain ⟨x, us1, ex, e⟩ := bindS_some e
  obtain ⟨ee, rfl⟩ := pureS_some e; clear e
  obtain ⟨i, ei, e⟩ := map_some ee
  subst e
  cases x <;> cases ei
  exact h _ _ _ ex B1 H1 g w _ fun v B2 H2 g2 r w2 => by cases r; exact ⟨_, rfl, q B2 H2 g2 w2⟩
def slS (F : SM U) (L Hh : SM (Option Int)) : SM U := bindS F fun x => bindS L fun lo => bindS Hh fun hi => pureS (sliceV x lo hi)
theorem es_slice {tlo thi : TO} {L Hh : SM (Option Int)} (h : EvS M ps σ B te F) (hl : EvPS M ps σ B tlo L) (hh : EvPS M ps σ B thi Hh) : EvS M ps σ B (tSl (rSlU K) te tlo thi) (slS F L Hh) := fun us z us' e B1 H1 g w Q q => by
  obtain ⟨x, us1, ex, e⟩ := bindS_some e
  obtain ⟨lo, us2, el, e⟩ := bindS_some e
  obtain ⟨hi, us3, eh, e⟩ := bindS_some e
  obtain ⟨ee, rfl⟩ := pureS_some e; clear e; have e := ee; clear ee
  refine h _ _ _ ex B1 H1 g w _ fun v B2 H2 g2 r2 w2 => hl _ _ _ el B2 H2 (g.trs g2) w2 _ fun B3 H3 g3 w3 => hh _ _ _ eh B3 H3 ((g.trs g2).trs g3) w3 _ fun B4 H4 g4 w4 => ?_
  have r4 := (r2.upA g3.at).upA g4.at
  have h0 : EvO (fun _ H Q => Q v H) σ B4 H4 (some x) := fun z ez B3 H3 g3 Q q => by cases ez; exact q v B3 H3 (Go.refl g3.bh) (r4.upA g3)
  have h1 : EvP (fun _ H Q => Q lo H) σ B4 H4 (some lo) := fun z ez B3 H3 g3 Q q => by cases ez; exact q B3 H3 (Go.refl g3.bh)
  have h2 : EvP (fun _ H Q => Q hi H) σ B4 H4 (some hi) := fun z ez B3 H3 g3 Q q => by cases ez; exact q B3 H3 (Go.refl g3.bh)
  exact eo_slice (K := K) h0 h1 h2 z (by simpa using e) B4 H4 (At.refl g4.bh) Q fun v5 B5 H5 g5 r5 => q v5 B5 H5 (((g2.trans g3).trans g4).trans (.of g5)) r5 (w4.go g5)
end
section
variable {vs : List V} {H : Hp} {Q : VK} {E : XK}
theorem sn0 {f : Option U} (h : spN (a0 f) vs H Q E) : ∃ B r, vs = [] ∧ Same B H ∧ f = some r ∧ ∀ p B2 H2, Go B H B2 H2 → H p = none → B2 p = none → OwnAt B2 H2 p r → Q (.ref p) H2 := by
  obtain ⟨B, xs, r, s, rs, e, k⟩ := h
  match xs, rs, e with
  | [], .nil, e => exact ⟨B, r, rfl, s, e, k⟩
theorem sn1 {f : U → Option U} (h : spN (a1 f) vs H Q E) : ∃ B x v r, vs = [v] ∧ Same B H ∧ Rp B x v ∧ f x = some r ∧ ∀ p B2 H2, Go B H B2 H2 → H p = none → B2 p = none → OwnAt B2 H2 p r → Q (.ref p) H2 := by
  obtain ⟨B, xs, r, s, rs, e, k⟩ := h
  match xs, rs, e with
  | [x], .cons r1 .nil, e => exact ⟨B, x, _, r, rfl, s, r1, e, k⟩
theorem sn2 {f : U → U → Option U} (h : spN (a2 f) vs H Q E) : ∃ B x y v w r, vs = [v, w] ∧ Same B H ∧ Rp B x v ∧ Rp B y w ∧ f x y = some r ∧ ∀ p B2 H2, Go B H B2 H2 → H p = none → B2 p = none → OwnAt B2 H2 p r → Q (.ref p) H2 := by
  obtain ⟨B, xs, r, s, rs, e, k⟩ := h
  match xs, rs, e with
  | [x, y], .cons r1 (.cons r2 .nil), e => exact ⟨B, x, y, _, _, r, rfl, s, r1, r2, e, k⟩
end
section
variable {α : Type} {R : α × List U} {β : Bs} {σ : St} {B H : Hp} {ps : List Addr} {us : List U} {K : PySem.W.Frag} {ta tb : TE} {tz : TS} {D : Ends} {F G : SM U} {i j : Nat}
theorem g_twoS {u : U} {v : V} {B1 H1 : Hp} {σ : St} {Q : St → Hp → Prop} {f : U → U → SM α} (s : Same B1 H1) (r : Rp B1 u v) (e : unpS u f us = some R) (k : ∀ a b x y, Rp B1 a x → Rp B1 b y → f a b us = some R → Q ((σ.set i (some x)).set j (some y)) H1) :
    gTup K 2 (gCons (gName i) (gCons (gName j) gNil)) v σ H1 Q := by
  obtain ⟨⟨a, b⟩, eu, e⟩ := bind_some e
  exact g_two s r eu fun x y ra rb => k a b x y ra rb e
/-- a, b = two new ones -/
theorem q_parNN {f : SM α} (W : Wh β B H ps us) (ha : EvN β.M ps σ B ta F) (hb : EvN β.M ps σ B tb G) (e : bindS F (fun x => bindS G fun y => addS x (addS y f)) us = some R)
    (k : ∀ p q B1 H1 us1, Wh β B1 H1 (ps ++ [p, q]) us1 → Same B B1 → f us1 = some R → tz D ((σ.set i (some (.ref p))).set j (some (.ref q))) H1) : tSeq (tPar i j (tCons ta (tCons tb tNil))) tz D σ H := by
  obtain ⟨x, us1, ex, e⟩ := bindS_some e
  obtain ⟨y, us2, ey, e⟩ := bindS_some e
  refine ha _ _ _ ex B H W.at W.w _ fun p B2 H2 g2 n2 b2 o2 w2 => hb _ _ _ ey B2 H2 (W.at.trs g2) w2 _ fun q B3 H3 g3 n3 b3 o3 w3 => ⟨_, _, rfl, ?_⟩
  obtain ⟨ob, eb⟩ := o2.ex
  have hnp : p ∉ ps := W.w.fresh n2
  have hpq : q ≠ p := fun z => by rw [z, eb] at n3; cases n3
  have o2' : OwnAt B3 H3 p x := o2.up (fun o e => g3.h p o e hnp) g3.b
  have W1 := W.new (u := x) (g2.trans g3) w3 n2 (g3.noB b2 eb hnp) o2'
  have hq : q ∉ ps ++ [p] := fun z => by
    rcases List.mem_append.mp z with z | z
    · exact w2.fresh n3 z
    · simp at z; exact hpq z
  have W2 : Wh β B3 H3 ((ps ++ [p]) ++ [q]) ((us2 ++ [x]) ++ [y]) := ⟨W1.g, W1.w.add hq ⟨.inr (W.g.n q (g2.n q n3)), o3.ex, .inr ⟨b3, o3⟩⟩, fun r hr => by
    have := W1.hd r hr
    cases ps with
    | nil => simpa using this
    | cons a t => simpa using this⟩
  rw [List.append_assoc] at W2
  exact k p q B3 H3 _ W2 (g2.b.trans g3.b) e
theorem q_parNV {f : U → SM α} (W : Wh β B H ps us) (ha : EvN β.M ps σ B ta F) (hb : EvS β.M ps σ B tb G) (e : bindS F (fun x => bindS G fun y => addS x (f y)) us = some R)
    (k : ∀ p y w B1 H1 us1, Rp B1 y w → Wh β B1 H1 (ps ++ [p]) us1 → Same B B1 → f y us1 = some R → tz D ((σ.set i (some (.ref p))).set j (some w)) H1) : tSeq (tPar i j (tCons ta (tCons tb tNil))) tz D σ H := by
  obtain ⟨x, us1, ex, e⟩ := bindS_some e
  obtain ⟨y, us2, ey, e⟩ := bindS_some e
  refine ha _ _ _ ex B H W.at W.w _ fun p B2 H2 g2 n2 b2 o2 w2 => hb _ _ _ ey B2 H2 (W.at.trs g2) w2 _ fun v B3 H3 g3 r3 w3 => ⟨_, _, rfl, ?_⟩
  obtain ⟨ob, eb⟩ := o2.ex
  have hnp : p ∉ ps := W.w.fresh n2
  have o2' : OwnAt B3 H3 p x := o2.up (fun o e => g3.h p o e hnp) g3.b
  exact k p y v B3 H3 _ r3 (W.new (u := x) (g2.trans g3) w3 n2 (g3.noB b2 eb hnp) o2') (g2.b.trans g3.b) e
theorem q_parVN {f : U → SM α} (W : Wh β B H ps us) (ha : EvS β.M ps σ B ta F) (hb : EvN β.M ps σ B tb G) (e : bindS F (fun y => bindS G fun x => addS x (f y)) us = some R)
    (k : ∀ p y w B1 H1 us1, Rp B1 y w → Wh β B1 H1 (ps ++ [p]) us1 → Same B B1 → f y us1 = some R → tz D ((σ.set i (some w)).set j (some (.ref p))) H1) : tSeq (tPar i j (tCons ta (tCons tb tNil))) tz D σ H := by
  obtain ⟨x, us1, ex, e⟩ := bindS_some e
  obtain ⟨y, us2, ey, e⟩ := bindS_some e
  refine ha _ _ _ ex B H W.at W.w _ fun v B2 H2 g2 r2 w2 => hb _ _ _ ey B2 H2 (W.at.trs g2) w2 _ fun p B3 H3 g3 n3 b3 o3 w3 => ⟨_, _, rfl, ?_⟩
  exact k p x v B3 H3 _ (r2.upA g3.at) (W.new (u := y) (g2.trans g3) w3 (g2.n p n3) b3 o3) (g2.b.trans g3.b) e
end
end Dn
set_option Elab.async false
set_option linter.all false
set_option maxRecDepth 100000
set_option maxHeartbeats 2000000
namespace Dn
open PySem L2
variable [CTab]
/-! ### a, b, c, .. = a list or a tuple -/
def gAnyT (K : PySem.W.Frag) (n : Nat) (t : TGs) : TG := fun v σ H Q => gTup K n t v σ H Q ∨ gUnl K n t v σ H Q
theorem pg_any {X : Cx} {es : List Expr} {k : Nat} {t : TGs} {n : Nat} {pos : Pos} (hc : X.calm = true) (h : PGs X es t)
    (hn : (assignEach es X.env).length = n := by rfl) (hst : (assignEach es X.env).findIdx? (·.1) = none := by rfl) : PG X (.Tuple es k pos) (gAnyT X.K n t) := by
  refine ⟨fun pins s σ H v u Q I r hw => ?_⟩
  rcases hw with hw | hw
  · exact (pg_tup hc h hn hst).run pins s σ H v u Q I r hw
  · exact (pg_unl hc h hn hst).run pins s σ H v u Q I r hw
theorem any_of {K : PySem.W.Frag} {n : Nat} {t : TGs} {u : U} {xs : List U} {v : V} {B H : Hp} {σ : St} {Q : St → Hp → Prop} (s : Same B H) (r : Rp B u v) (e : u.seq = some xs) (hn : xs.length = n) (k : ∀ vs, Rps B xs vs → t vs σ H Q) : gAnyT K n t v σ H Q := by
  cases r with
  | @tup a _ vs e1 r => cases e; exact .inl ⟨a, vs, rfl, SqT.of (s _ _ e1), by rw [r.length]; exact hn, k vs r⟩
  | @lst a _ vs e1 r => cases e; exact .inr ⟨a, vs, rfl, SqL.of (s _ _ e1), by rw [r.length]; exact hn, k vs r⟩
  | @frl a _ vs o e1 r => cases e; exact .inr ⟨a, vs, rfl, .inl (.inr ⟨o, s _ _ e1⟩), by rw [r.length]; exact hn, k vs r⟩
  | _ => cases e
def unpN3 (u : U) : Option (U × U × U) := match u.seq with
  | some [x0, x1, x2] => some (x0, x1, x2)
  | _ => none
def unpF3 {α : Type} (u : U) (f : U → U → U → Option α) : Option α := (unpN3 u).bind fun t => f t.1 t.2.1 t.2.2
def unpS3 {α : Type} (u : U) (f : U → U → U → SM α) : SM α := fun us => (unpN3 u).bind fun t => f t.1 t.2.1 t.2.2 us
theorem g_unp3 {K : PySem.W.Frag} {u x0 x1 x2 : U} {v : V} {B H : Hp} {σ : St} {Q : St → Hp → Prop} {i0 i1 i2 : Nat} (s : Same B H) (r : Rp B u v) (e : unpN3 u = some (x0, x1, x2)) (k : ∀ v0 v1 v2, Rp B x0 v0 → Rp B x1 v1 → Rp B x2 v2 → Q (((σ.set i0 (some v0)).set i1 (some v1)).set i2 (some v2)) H) : gAnyT K 3 (gCons (gName i0) (gCons (gName i1) (gCons (gName i2) gNil))) v σ H Q := by
  unfold unpN3 at e
  split at e
  · rename_i eu
    cases e
    refine any_of s r eu rfl fun vs rs => ?_
    match vs, rs with
    | [v0, v1, v2], .cons r0 (.cons r1 (.cons r2 (.nil))) => exact ⟨_, _, rfl, ⟨_, _, rfl, ⟨_, _, rfl, rfl, k _ _ _ r0 r1 r2⟩⟩⟩
  · cases e
theorem q_unp3 {α : Type} {R : α} {K : PySem.W.Frag} {te : TE} {tz : TS} {D : Ends} {o : Option U} {f : U → U → U → Option α} {B H : Hp} {σ : St} {i0 i1 i2 : Nat} (s : Same B H) (h : EvO te σ B H o) (e : (o.bind fun u => unpF3 u f) = some R) (k : ∀ x0 x1 x2 v0 v1 v2 B1 H1, Go B H B1 H1 → Rp B1 x0 v0 → Rp B1 x1 v1 → Rp B1 x2 v2 → f x0 x1 x2 = some R → tz D (((σ.set i0 (some v0)).set i1 (some v1)).set i2 (some v2)) H1) : tSeq (tAsg te (gAnyT K 3 (gCons (gName i0) (gCons (gName i1) (gCons (gName i2) gNil))))) tz D σ H := by
  obtain ⟨u, eu, e⟩ := bind_some e
  obtain ⟨⟨x0, x1, x2⟩, ex, e⟩ := bind_some e
  exact h u eu B H (At.refl s) _ fun v B2 H2 g2 r2 => g_unp3 g2.bh r2 ex fun v0 v1 v2 r0 r1 r2 => k x0 x1 x2 v0 v1 v2 B2 H2 g2 r0 r1 r2 e
theorem q_unpS3 {α : Type} {R : α × List U} {β : Bs} {K : PySem.W.Frag} {te : TE} {tz : TS} {D : Ends} {F : SM U} {f : U → U → U → SM α} {B H : Hp} {σ : St} {ps : List Addr} {us : List U} {i0 i1 i2 : Nat} (W : Wh β B H ps us) (h : EvS β.M ps σ B te F) (e : bindS F (fun u => unpS3 u f) us = some R) (k : ∀ x0 x1 x2 v0 v1 v2 B1 H1 us1, Wh β B1 H1 ps us1 → Same B B1 → Rp B1 x0 v0 → Rp B1 x1 v1 → Rp B1 x2 v2 → f x0 x1 x2 us1 = some R → tz D (((σ.set i0 (some v0)).set i1 (some v1)).set i2 (some v2)) H1) : tSeq (tAsg te (gAnyT K 3 (gCons (gName i0) (gCons (gName i1) (gCons (gName i2) gNil))))) tz D σ H := by
  obtain ⟨u, us1, eu, e⟩ := bindS_some e
  obtain ⟨⟨x0, x1, x2⟩, ex, e⟩ := bind_some e
  exact h _ _ _ eu B H W.at W.w _ fun v B2 H2 g2 r2 w2 => g_unp3 g2.bh r2 ex fun v0 v1 v2 r0 r1 r2 => k x0 x1 x2 v0 v1 v2 B2 H2 us1 (W.step g2 w2) g2.b r0 r1 r2 e
def unpN4 (u : U) : Option (U × U × U × U) := match u.seq with
  | some [x0, x1, x2, x3] => some (x0, x1, x2, x3)
  | _ => none
def unpF4 {α : Type} (u : U) (f : U → U → U → U → Option α) : Option α := (unpN4 u).bind fun t => f t.1 t.2.1 t.2.2.1 t.2.2.2
def unpS4 {α : Type} (u : U) (f : U → U → U → U → SM α) : SM α := fun us => (unpN4 u).bind fun t => f t.1 t.2.1 t.2.2.1 t.2.2.2 us
theorem g_unp4 {K : PySem.W.Frag} {u x0 x1 x2 x3 : U} {v : V} {B H : Hp} {σ : St} {Q : St → Hp → Prop} {i0 i1 i2 i3 : Nat} (s : Same B H) (r : Rp B u v) (e : unpN4 u = some (x0, x1, x2, x3)) (k : ∀ v0 v1 v2 v3, Rp B x0 v0 → Rp B x1 v1 → Rp B x2 v2 → Rp B x3 v3 → Q ((((σ.set i0 (some v0)).set i1 (some v1)).set i2 (some v2)).set i3 (some v3)) H) : gAnyT K 4 (gCons (gName i0) (gCons (gName i1) (gCons (gName i2) (gCons (gName i3) gNil)))) v σ H Q := by
  unfold unpN4 at e
  split at e
  · rename_i eu
    cases e
    refine any_of s r eu rfl fun vs rs => ?_
    match vs, rs with
    | [v0, v1, v2, v3], .cons r0 (.cons r1 (.cons r2 (.cons r3 (.nil)))) => exact ⟨_, _, rfl, ⟨_, _, rfl, ⟨_, _, rfl, ⟨_, _, rfl, rfl, k _ _ _ _ r0 r1 r2 r3⟩⟩⟩⟩
  · cases e
theorem q_unp4 {α : Type} {R : α} {K : PySem.W.Frag} {te : TE} {tz : TS} {D : Ends} {o : Option U} {f : U → U → U → U → Option α} {B H : Hp} {σ : St} {i0 i1 i2 i3 : Nat} (s : Same B H) (h : EvO te σ B H o) (e : (o.bind fun u => unpF4 u f) = some R) (k : ∀ x0 x1 x2 x3 v0 v1 v2 v3 B1 H1, Go B H B1 H1 → Rp B1 x0 v0 → Rp B1 x1 v1 → Rp B1 x2 v2 → Rp B1 x3 v3 → f x0 x1 x2 x3 = some R → tz D ((((σ.set i0 (some v0)).set i1 (some v1)).set i2 (some v2)).set i3 (some v3)) H1) : tSeq (tAsg te (gAnyT K 4 (gCons (gName i0) (gCons (gName i1) (gCons (gName i2) (gCons (gName i3) gNil)))))) tz D σ H := by
  obtain ⟨u, eu, e⟩ := bind_some e
  obtain ⟨⟨x0, x1, x2, x3⟩, ex, e⟩ := bind_some e
  exact h u eu B H (At.refl s) _ fun v B2 H2 g2 r2 => g_unp4 g2.bh r2 ex fun v0 v1 v2 v3 r0 r1 r2 r3 => k x0 x1 x2 x3 v0 v1 v2 v3 B2 H2 g2 r0 r1 r2 r3 e
theorem q_unpS4 {α : Type} {R : α × List U} {β : Bs} {K : PySem.W.Frag} {te : TE} {tz : TS} {D : Ends} {F : SM U} {f : U → U → U → U → SM α} {B H : Hp} {σ : St} {ps : List Addr} {us : List U} {i0 i1 i2 i3 : Nat} (W : Wh β B H ps us) (h : EvS β.M ps σ B te F) (e : bindS F (fun u => unpS4 u f) us = some R) (k : ∀ x0 x1 x2 x3 v0 v1 v2 v3 B1 H1 us1, Wh β B1 H1 ps us1 → Same B B1 → Rp B1 x0 v0 → Rp B1 x1 v1 → Rp B1 x2 v2 → Rp B1 x3 v3 → f x0 x1 x2 x3 us1 = some R → tz D ((((σ.set i0 (some v0)).set i1 (some v1)).set i2 (some v2)).set i3 (some v3)) H1) : tSeq (tAsg te (gAnyT K 4 (gCons (gName i0) (gCons (gName i1) (gCons (gName i2) (gCons (gName i3) gNil)))))) tz D σ H := by
  obtain ⟨u, us1, eu, e⟩ := bindS_some e
  obtain ⟨⟨x0, x1, x2, x3⟩, ex, e⟩ := bind_some e
  exact h _ _ _ eu B H W.at W.w _ fun v B2 H2 g2 r2 w2 => g_unp4 g2.bh r2 ex fun v0 v1 v2 v3 r0 r1 r2 r3 => k x0 x1 x2 x3 v0 v1 v2 v3 B2 H2 us1 (W.step g2 w2) g2.b r0 r1 r2 r3 e
def unpN5 (u : U) : Option (U × U × U × U × U) := match u.seq with
  | some [x0, x1, x2, x3, x4] => some (x0, x1, x2, x3, x4)
  | _ => none
def unpF5 {α : Type} (u : U) (f : U → U → U → U → U → Option α) : Option α := (unpN5 u).bind fun t => f t.1 t.2.1 t.2.2.1 t.2.2.2.1 t.2.2.2.2
def unpS5 {α : Type} (u : U) (f : U → U → U → U → U → SM α) : SM α := fun us => (unpN5 u).bind fun t => f t.1 t.2.1 t.2.2.1 t.2.2.2.1 t.2.2.2.2 us
theorem g_unp5 {K : PySem.W.Frag} {u x0 x1 x2 x3 x4 : U} {v : V} {B H : Hp} {σ : St} {Q : St → Hp → Prop} {i0 i1 i2 i3 i4 : Nat} (s : Same B H) (r : Rp B u v) (e : unpN5 u = some (x0, x1, x2, x3, x4)) (k : ∀ v0 v1 v2 v3 v4, Rp B x0 v0 → Rp B x1 v1 → Rp B x2 v2 → Rp B x3 v3 → Rp B x4 v4 → Q (((((σ.set i0 (some v0)).set i1 (some v1)).set i2 (some v2)).set i3 (some v3)).set i4 (some v4)) H) : gAnyT K 5 (gCons (gName i0) (gCons (gName i1) (gCons (gName i2) (gCons (gName i3) (gCons (gName i4) gNil))))) v σ H Q := by
  unfold unpN5 at e
  split at e
  · rename_i eu
    cases e
    refine any_of s r eu rfl fun vs rs => ?_
    match vs, rs with
    | [v0, v1, v2, v3, v4], .cons r0 (.cons r1 (.cons r2 (.cons r3 (.cons r4 (.nil))))) => exact ⟨_, _, rfl, ⟨_, _, rfl, ⟨_, _, rfl, ⟨_, _, rfl, ⟨_, _, rfl, rfl, k _ _ _ _ _ r0 r1 r2 r3 r4⟩⟩⟩⟩⟩
  · cases e
theorem q_unp5 {α : Type} {R : α} {K : PySem.W.Frag} {te : TE} {tz : TS} {D : Ends} {o : Option U} {f : U → U → U → U → U → Option α} {B H : Hp} {σ : St} {i0 i1 i2 i3 i4 : Nat} (s : Same B H) (h : EvO te σ B H o) (e : (o.bind fun u => unpF5 u f) = some R) (k : ∀ x0 x1 x2 x3 x4 v0 v1 v2 v3 v4 B1 H1, Go B H B1 H1 → Rp B1 x0 v0 → Rp B1 x1 v1 → Rp B1 x2 v2 → Rp B1 x3 v3 → Rp B1 x4 v4 → f x0 x1 x2 x3 x4 = some R → tz D (((((σ.set i0 (some v0)).set i1 (some v1)).set i2 (some v2)).set i3 (some v3)).set i4 (some v4)) H1) : tSeq (tAsg te (gAnyT K 5 (gCons (gName i0) (gCons (gName i1) (gCons (gName i2) (gCons (gName i3) (gCons (gName i4) gNil))))))) tz D σ H := by
  obtain ⟨u, eu, e⟩ := bind_some e
  obtain ⟨⟨x0, x1, x2, x3, x4⟩, ex, e⟩ := bind_some e
  exact h u eu B H (At.refl s) _ fun v B2 H2 g2 r2 => g_unp5 g2.bh r2 ex fun v0 v1 v2 v3 v4 r0 r1 r2 r3 r4 => k x0 x1 x2 x3 x4 v0 v1 v2 v3 v4 B2 H2 g2 r0 r1 r2 r3 r4 e
theorem q_unpS5 {α : Type} {R : α × List U} {β : Bs} {K : PySem.W.Frag} {te : TE} {tz : TS} {D : Ends} {F : SM U} {f : U → U → U → U → U → SM α} {B H : Hp} {σ : St} {ps : List Addr} {us : List U} {i0 i1 i2 i3 i4 : Nat} (W : Wh β B H ps us) (h : EvS β.M ps σ B te F) (e : bindS F (fun u => unpS5 u f) us = some R) (k : ∀ x0 x1 x2 x3 x4 v0 v1 v2 v3 v4 B1 H1 us1, Wh β B1 H1 ps us1 → Same B B1 → Rp B1 x0 v0 → Rp B1 x1 v1 → Rp B1 x2 v2 → Rp B1 x3 v3 → Rp B1 x4 v4 → f x0 x1 x2 x3 x4 us1 = some R → tz D (((((σ.set i0 (some v0)).set i1 (some v1)).set i2 (some v2)).set i3 (some v3)).set i4 (some v4)) H1) : tSeq (tAsg te (gAnyT K 5 (gCons (gName i0) (gCons (gName i1) (gCons (gName i2) (gCons (gName i3) (gCons (gName i4) gNil))))))) tz D σ H := by
  obtain ⟨u, us1, eu, e⟩ := bindS_some e
  obtain ⟨⟨x0, x1, x2, x3, x4⟩, ex, e⟩ := bind_some e
  exact h _ _ _ eu B H W.at W.w _ fun v B2 H2 g2 r2 w2 => g_unp5 g2.bh r2 ex fun v0 v1 v2 v3 v4 r0 r1 r2 r3 r4 => k x0 x1 x2 x3 x4 v0 v1 v2 v3 v4 B2 H2 us1 (W.step g2 w2) g2.b r0 r1 r2 r3 r4 e
end Dn
set_option Elab.async false
set_option linter.all false
set_option maxRecDepth 100000
set_option maxHeartbeats 2000000
namespace Dn
open PySem PySem.Spec PyProof.Rows L2
variable [CTab]
/-! ### calls by keywords alone -/
section
variable {X : Cx} {CX : CXT} {k : Nat} {f : Addr} {fd : FuncData} {ps ks : List Str} {sp : Sp} {E : XK} {x : Str} {p pos : Pos} {kws : List Keyword} {tk : TA} {g : List Value → List Value → List Value} {gV : List V → List V → List V}
theorem pe_callN0 (F : FnOk X.prog X.w X.K X.mg X.base CX k f fd ps sp) (hr : Room k X.A) (hg : Gl X x) (hm : X.mg x = some (.ref f)) (hk : PySem.W.keepIn X.K (.ref f) = true) (hb : KBn X.K fd ps 0 ks g gV) (hx : Passes CX X E)
    (hkw : PK X kws tk) (hall : (backToKw pos (keywordEach kws X.env)).all (·.1.isSome) = true := by rfl) (hks : (backToKw pos (keywordEach kws X.env)).filterMap (·.1) = ks := by rfl)
    (hdb : (x == ("__debug__" : Str)) = false := by decide)
    (hpl : ((backTo pos (starEach [] X.env)).any (·.1) || (backToKw pos (keywordEach kws X.env)).any (·.1.isNone)) = false := by rfl) :
    PE X (.Call (.Name x p) [] kws pos) (tCallN 0 ks.length sp gV E tNil tk) := by
  refine ⟨fun pins s σ H Q I h => ?_⟩
  refine wpAny_Call_Name_kw (ld_glob I hg hm ?_ hdb)
  refine PySem.W.callWith_KW0 (h₀ := X.base) I.ok.mod.kin hk hall (thn (hkw.run pos pins s σ H _ I h) fun ws s2 ⟨zs, H2, I2, rz, l1, l2, q2⟩ => ⟨I2.kIn, ?_⟩) hpl
  rw [hks]
  exact run_fnN F hr hb hx I2 .nil rz l1 l2 q2
end
theorem Vals.reverse : ∀ {vs : List V} {us : List Value}, Vals vs us → Vals vs.reverse us.reverse
  | _, _, .nil => .nil
  | _, _, .cons h t => by
    rw [List.reverse_cons, List.reverse_cons]
    exact (Vals.reverse t).append (.cons h .nil)
theorem Rps.reverse {B : Hp} : ∀ {xs : List U} {vs : List V}, Rps B xs vs → Rps B xs.reverse vs.reverse
  | _, _, .nil => .nil
  | _, _, .cons h t => by
    rw [List.reverse_cons, List.reverse_cons]
    exact (Rps.reverse t).append (.cons h .nil)
/-- two keywords, written the other way round -/
theorem kb2r {K : PySem.W.Frag} {x qual : Str} {st : Stmt} {f : Addr} {fd : FuncData} {p1 p2 : Str} (F : Fun K x qual st f fd)
    (h : ∀ (kV doc pm : Value) (an : Option Addr) (cdv ct u v : Value), bindArgs (PySem.W.fnOf x qual (defArgs st) (defBody st) (defScope st) .none kV doc pm an cdv ct) ⟨[], [(p2, u), (p1, v)]⟩ = pure [(p1, v), (p2, u)]) :
    KBn K fd [p1, p2] 0 [p2, p1] (fun _ ws => ws.reverse) (fun _ zs => zs.reverse) := by
  obtain ⟨oc, od, kV, doc, pm, an, cdv, ct, osl, rfl, lk, hcd⟩ := F.ex
  refine ⟨fun s us ws X l1 l2 => ?_, fun r1 r2 => Vals.reverse r2⟩
  match us, ws, l1, l2 with
  | [], [u, v], _, _ => exact BindsTo.of_eq (h kV doc pm an cdv ct u v)
section
variable {σ : L2.St} {B H : Hp} {E : XK} {tk : TA}
theorem eo_callR {m : List U → Option U} {n : Nat} {ol : Option (List U)} (h : EvA tk σ B H ol) : EvO (tCallN 0 n (spU m) (fun _ zs => zs.reverse) E tNil tk) σ B H (callO (fun xs => if xs.length = n then m xs.reverse else none) ol) := fun z e B1 H1 g Q q => by
  obtain ⟨x, ex, e⟩ := bind_some e
  split at e
  · rename_i hn
    exact h x ex B1 H1 g _ fun vs B2 H2 g2 r => ⟨rfl, by rw [r.length]; exact hn, B2, _, z, g2.bh, r.reverse, e, fun v B3 H3 g3 r3 => q v B3 H3 (g2.trans g3) r3⟩
  · cases e
end
/-! ### sum of a list or a tuple of ints -/
theorem sum_tup {prog : Program} {w : World} {A : Around} {E : Value → Shared → Prop} {s : Shared} {l : Addr} {its : List Value} {ns : List Int} {Q : Value → Shared → Prop} (hh : A.handled = none) (hl : s.heap.IsTuple l its.toArray) (hi : PyProof.Rows.IntsAre its ns)
    (h : ∀ h' tk t', (∀ b o, s.heap.get? b = some o → h'.get? b = some o) → Q (.int ns.sum t') { s with heap := h', toks := tk }) : wpAny (model prog w) A (call (.builtin "sum") [.ref l]) Q E s := by
  obtain ⟨xs, e⟩ := hi.allInts.items
  have hn : numsOf (intItems xs).toList = ns := by rw [← e]; exact hi.numsOf
  rw [nums_intItems] at hn
  rw [e] at hl
  have hlt : l < s.heap.objs.size := by obtain ⟨_, e, _⟩ := hl; exact Heap.lt_size e
  refine call_sum_walkG (wpAny_pyIter_tuple hl ?_)
  refine ⟨_, _, _, _, _, _, numAt xs, rfl, Walks.tuple (A := A.in1) hh _ l (Nat.ne_of_lt hlt) (intItems xs), ⟨⟨_, Heap.get?_push_size _ rfl, rfl, rfl⟩, hl.at fun o e => Heap.get?_push_of_some _ e⟩, fun b hb => ?_, (fun _ _ => intItems_at), fun h' tk t' hk => ?_⟩
  · show b < (s.heap.push _).objs.size
    rw [Heap.size_push]
    rcases List.mem_cons.mp hb with rfl | hb
    · exact Nat.lt_succ_self _
    · rcases List.mem_cons.mp hb with rfl | hb
      · exact Nat.lt_succ_of_lt hlt
      · cases hb
  · have := h h' tk t' (fun b o e => hk b o (fun z => by simp at z; subst z; exact absurd (Heap.lt_size e) (Nat.lt_irrefl _)) (Heap.get?_push_of_some _ e))
    rw [← hn] at this
    rw [preSum_eq, List.take_of_length_le (by simp [intItems])]; exact this
theorem cr_sumT {X : Cx} (hc : X.calm = true) : CallR X (.builtin "sum") (fun vs H Q => ∃ (a : Addr) (ns : List Int), vs = [V.ref a] ∧ SqT X.K H a (ns.map V.int) ∧ Q (.int ns.sum) H) := by
  intro pins s σ H vs us Q I r h
  obtain ⟨a, ns, rfl, hs, q⟩ := h
  obtain ⟨its, rv, hl, _⟩ := I.tuple hs
  rw [Vals.ref1 r]
  exact sum_tup (I.ok.hd hc) hl rv.ints fun h' tk t' hk => ⟨.int _, H, I.kept hk, ⟨_, rfl⟩, q⟩
def rSumA (K : PySem.W.Frag) : List V → Hp → VK → Prop := fun vs H Q => rSum K vs H Q ∨ ∃ (a : Addr) (ns : List Int), vs = [V.ref a] ∧ SqT K H a (ns.map V.int) ∧ Q (.int ns.sum) H
theorem call_sumA {X : Cx} (hc : X.calm = true) : CallR X (.builtin "sum") (rSumA X.K) := CallR.or (cr_sum hc) (cr_sumT hc)
def sumA : U → Option U
  | .lst xs => (intsU xs).map fun bs => .int bs.sum
  | .tup xs => (intsU xs).map fun bs => .int bs.sum
  | .frl xs => (intsU xs).map fun bs => .int bs.sum
  | _ => none
theorem rc_sumA {K : PySem.W.Frag} : RC (rSumA K) (c1 sumA) := rc_one c1_one fun x z e v B H s rx Q q => by
  cases rx with
  | @lst a xs vs h r =>
    obtain ⟨bs, eb, e⟩ := map_some (show (intsU xs).map _ = some z from e)
    subst e
    have := r.intsOf eb; subst this
    exact .inl ⟨a, bs, rfl, SqL.of (s _ _ h), q _ B H (Go.refl s) (.int _)⟩
  | @frl a xs vs o h r =>
    obtain ⟨bs, eb, e⟩ := map_some (show (intsU xs).map _ = some z from e)
    subst e
    have := r.intsOf eb; subst this
    exact .inl ⟨a, bs, rfl, .inl (.inr ⟨o, s _ _ h⟩), q _ B H (Go.refl s) (.int _)⟩
  | @tup a xs vs h r =>
    obtain ⟨bs, eb, e⟩ := map_some (show (intsU xs).map _ = some z from e)
    subst e
    have := r.intsOf eb; subst this
    exact .inr ⟨a, bs, rfl, SqT.of (s _ _ h), q _ B H (Go.refl s) (.int _)⟩
  | _ => cases e
/-! ### tests that look at one's own object -/
def tLockT (t : TT) : TT := fun σ H Q => ∃ d u, H d = some u ∧ Mut (some u) ∧ ∀ od, t σ (upd H d (.frz od u)) fun b H' => H' d = some (.frz od u) ∧ Q b (upd H' d u)
theorem pt_lock {X : Cx} {e : Expr} {t : TT} (h : PT X e t) : PT X e (tLockT t) := by
  refine ⟨fun pins s σ H Q I hw => ?_⟩
  obtain ⟨d, u, hd, mu, hw⟩ := hw
  obtain ⟨od, I1⟩ := I.lock hd mu
  refine thn (h.run pins s σ _ _ I1 (hw od)) fun b s1 ⟨H1, I2, e2, q⟩ => ?_
  exact ⟨_, I2.unlock e2 (I.nofrz hd mu), q⟩
section
variable {M : Addr → Prop} {ps : List Addr} {σ : L2.St} {B H : Hp} {t : TT} {j : Nat} {p : Addr}
theorem ets_lockT {o : U → Option Bool} (hp : ps[j]? = some p) (h : ∀ u B' H', Same B B' → Rp B' u (.ref p) → EvT t σ B' H' (o u)) : EvTS M ps σ B (tLockT t) (lockT j o) := fun us z us' e B1 H1 g w Q q => by
  obtain ⟨u, eu, e⟩ := bind_some e
  split at e
  · rename_i ho
    obtain ⟨z1, ez, e⟩ := map_some e
    cases e
    obtain ⟨hb, ow⟩ := (w.at_ j p u hp eu).own ho
    obtain ⟨o1, e1, mu, hl⟩ := ow.lock
    refine ⟨p, o1, e1, mu, fun od => ?_⟩
    have r1 : Rp (upd B1 p (.frz od o1)) u (.ref p) := (hl od).resolve_right (fun z => z hb)
    have s1 : Same (upd B1 p (.frz od o1)) (upd H1 p (.frz od o1)) := fun b x hx => by
      by_cases hbp : b = p
      · subst hbp; rw [upd_same] at hx ⊢; exact hx
      · rw [upd_ne hbp] at hx ⊢; exact g.bh b x hx
    refine h u _ (upd H1 p (.frz od o1)) (g.b.trans (same_lock hb)) r1 z ez _ _ (At.refl s1) _ fun B2 H2 g2 => ?_
    have eB : B2 p = some (.frz od o1) := g2.b _ _ upd_same
    have eH : H2 p = some (.frz od o1) := g2.bh _ _ eB
    have gg : Go B1 H1 (eraseB B2 p) (upd H2 p o1) := by
      refine ⟨fun a x hx => ?_, fun a x hx => ?_, fun a x hx => ?_, fun a x hx => ?_⟩
      · by_cases ha : a = p
        · subst ha; rw [upd_same, ← e1]; exact hx
        · rw [upd_ne ha]; exact g2.h a x (by rw [upd_ne ha]; exact hx)
      · have ha : a ≠ p := ne_of_none hx hb
        rw [erase_ne ha]; exact g2.b a x (by rw [upd_ne ha]; exact hx)
      · by_cases ha : a = p
        · subst ha; rw [erase_same] at hx; cases hx
        · rw [erase_ne ha] at hx; rw [upd_ne ha]; exact g2.bh a x hx
      · by_cases ha : a = p
        · subst ha; rw [erase_same] at hx; cases hx
        · rw [erase_ne ha] at hx
          rcases g2.fr a x hx with z | z
          · rw [upd_ne ha] at z; exact .inl z
          · rw [upd_ne ha] at z; exact .inr z
    exact ⟨eH, q _ _ (.of gg) (w.go gg)⟩
  · cases e
end
end Dn
set_option Elab.async false
set_option linter.all false
set_option maxRecDepth 100000
set_option maxHeartbeats 2000000
namespace Dn
open PySem PySem.Spec PyProof.Rows L2
variable [CTab]
/-! ### the rules with the module's part named -/
section
variable {X : Cx} {K : PySem.W.Frag} {a b e o : Expr} {ta tb te to : TE} {pos : Pos}
theorem ix_anyK (hK : X.K = K) (hu : X.A.units + 64 < cLine) : IxR X (rIxA K) := hK ▸ ix_any hu
theorem call_lenK (hK : X.K = K) : CallR X (.builtin "len") (rLenA K) := hK ▸ call_lenA
theorem cr_allK (hK : X.K = K) (hc : X.calm = true) : CallR X (.builtin "all") (rAll K) := hK ▸ cr_all hc
theorem cr_anyK (hK : X.K = K) (hc : X.calm = true) : CallR X (.builtin "any") (rAny K) := hK ▸ cr_any hc
theorem call_sumK (hK : X.K = K) (hc : X.calm = true) : CallR X (.builtin "sum") (rSumA K) := hK ▸ call_sumA hc
def rListB (K : PySem.W.Frag) : List V → Hp → VK → Prop := fun xs H Q => (∃ p ys, xs = [V.ref p] ∧ (SqL K H p ys ∨ SqT K H p ys) ∧ ∀ l, H l = none → Q (.ref l) (upd H l (.lst ys))) ∨
    ∃ (a : Addr) (kvs : List (Key × V)), xs = [V.ref a] ∧ Rd H a (.dK kvs) ∧ ∀ p, H p = none → Q (.ref p) (upd H p (.lst (kvs.map fun kv => kV kv.1)))
theorem call_listK (hK : X.K = K) (hc : X.calm = true) : CallR X (.type "list") (rListB K) := hK ▸ call_listB hc
theorem rc_listK : RC (rListB K) (c1 listB) := rc_listB
theorem call_tupleK (hK : X.K = K) : CallR X (.type "tuple") (rTupleA K) := hK ▸ call_tuple_of
theorem op_addK (hK : X.K = K) : OpR X (binaryOp .Add) (rAddU K) := hK ▸ op_addU
theorem sl_anyK (hK : X.K = K) : SlR X (rSlU K) := hK ▸ sl_any
theorem call_isiKK (hK : X.K = K) : CallR X (.builtin "isinstance") (rIsi K) := hK ▸ call_isi
theorem pi_anyK {tg : Expr} (hK : X.K = K) (h : PE X e te) : PI X tg e (iAny K te) := hK ▸ pi_any h
theorem pi_zipK {p pos tpos : Pos} {elts : List Expr} {kk : Nat} (hK : X.K = K) (hg : Gl X "zip") (hm : X.mg "zip" = none) (h1 : PE X a ta) (h2 : PE X b tb)
    (he1 : starEach [a, b] X.env = (false, eval a X.env) :: starEach [b] X.env := by rfl) (he2 : starEach [b] X.env = (false, eval b X.env) :: starEach [] X.env := by rfl) (hpl : (backTo pos (starEach [b] X.env)).any (·.1) = false := by rfl) :
    PI X (.Tuple elts kk tpos) (.Call (.Name "zip" p) [a, b] [] pos) (iZipU K (tCons ta (tCons tb tNil))) := hK ▸ pi_zipU hg hm h1 h2 he1 he2 hpl
theorem pe_fldK {f : Str} (hK : X.K = K) (he : PE X e te) (hb : attributeBase e f X.env (eval e X.env) = eval e X.env := by rfl) : PE X (.Attribute e f pos) (tFld K te f) := hK ▸ pe_fld he hb
theorem pe_joinK {apos pos : Pos} (hK : X.K = K) (ho : PE X o to) (he : PE X e te) (hs : starEach [e] X.env = [(false, eval e X.env)] := by rfl) (hbase : attributeBase o "join" X.env (eval o X.env) = eval o X.env := by rfl) (hline : (apos.endLine == pos.line) = true := by rfl) :
    PE X (.Call (.Attribute o "join" apos) [e] [] pos) (tM1 (fun x xs H Q => ∃ a p, ∃ ys : List Str, x = .str a ∧ xs = [.ref p] ∧ (SqL K H p (ys.map V.str) ∨ SqT K H p (ys.map V.str)) ∧
      (ys.map (·.length)).sum + ys.length * a.length ≤ 16777216 ∧ Q (.str (Txt.join a ys)) H) to te) := hK ▸ pe_join ho he hs hbase hline
section
variable {es : List Expr} {t : TA} {apos cpos : Pos}
theorem pe_appK (hK : X.K = K) (ho : PE X o to) (ha : PA X (e :: es) t) (hbase : attributeBase o "append" X.env (eval o X.env) = eval o X.env := by rfl)
    (hfew : ((backTo cpos (starEach (e :: es) X.env)).all (fun x => !x.1) && (backToKw cpos (keywordEach [] X.env)).all (fun x => x.1.isSome)
      && decide ((e :: es).length + ([] : List Keyword).length + (if ([] : List Keyword).isEmpty then 0 else 1) < 30)) = true := by rfl)
    (hline : (apos.endLine == cpos.line) = true := by rfl) (hs : starEach (e :: es) X.env = (false, eval e X.env) :: starEach es X.env := by rfl) (hplain : (backTo cpos (starEach es X.env)).any (·.1) = false := by rfl) :
    PE X (.Call (.Attribute o "append" apos) (e :: es) [] cpos) (tBM K "list" rAppend to t) := hK ▸ pe_bm PySem.F.plainAttrs_list PySem.F.slot_list_append PySem.F.type_list_append mt_append ho ha hbase hfew hline hs hplain
theorem pe_popK (hK : X.K = K) (ho : PE X o to) (ha : PA X (e :: es) t) (hbase : attributeBase o "pop" X.env (eval o X.env) = eval o X.env := by rfl)
    (hfew : ((backTo cpos (starEach (e :: es) X.env)).all (fun x => !x.1) && (backToKw cpos (keywordEach [] X.env)).all (fun x => x.1.isSome)
      && decide ((e :: es).length + ([] : List Keyword).length + (if ([] : List Keyword).isEmpty then 0 else 1) < 30)) = true := by rfl)
    (hline : (apos.endLine == cpos.line) = true := by rfl) (hs : starEach (e :: es) X.env = (false, eval e X.env) :: starEach es X.env := by rfl) (hplain : (backTo cpos (starEach es X.env)).any (·.1) = false := by rfl) :
    PE X (.Call (.Attribute o "pop" apos) (e :: es) [] cpos) (tBM K "list" rPopAt to t) := hK ▸ pe_bm PySem.F.plainAttrs_list PySem.F.slot_list_pop PySem.F.type_list_pop mt_popAt ho ha hbase hfew hline hs hplain
theorem pe_indexK (hK : X.K = K) (ho : PE X o to) (ha : PA X (e :: es) t) (hbase : attributeBase o "index" X.env (eval o X.env) = eval o X.env := by rfl)
    (hfew : ((backTo cpos (starEach (e :: es) X.env)).all (fun x => !x.1) && (backToKw cpos (keywordEach [] X.env)).all (fun x => x.1.isSome)
      && decide ((e :: es).length + ([] : List Keyword).length + (if ([] : List Keyword).isEmpty then 0 else 1) < 30)) = true := by rfl)
    (hline : (apos.endLine == cpos.line) = true := by rfl) (hs : starEach (e :: es) X.env = (false, eval e X.env) :: starEach es X.env := by rfl) (hplain : (backTo cpos (starEach es X.env)).any (·.1) = false := by rfl) :
    PE X (.Call (.Attribute o "index" apos) (e :: es) [] cpos) (tBM K "list" (rIndex K) to t) := hK ▸ pe_bm PySem.F.plainAttrs_list PySem.F.slot_list_index PySem.F.type_list_index mt_index ho ha hbase hfew hline hs hplain
end
theorem pg_tupK {es : List Expr} {k : Nat} {t : TGs} {n : Nat} (hK : X.K = K) (hc : X.calm = true) (h : PGs X es t)
    (hn : (assignEach es X.env).length = n := by rfl) (hst : (assignEach es X.env).findIdx? (·.1) = none := by rfl) : PG X (.Tuple es k pos) (gTup K n t) := hK ▸ pg_tup hc h hn hst
theorem pg_anyK {es : List Expr} {k : Nat} {t : TGs} {n : Nat} (hK : X.K = K) (hc : X.calm = true) (h : PGs X es t)
    (hn : (assignEach es X.env).length = n := by rfl) (hst : (assignEach es X.env).findIdx? (·.1) = none := by rfl) : PG X (.Tuple es k pos) (gAnyT K n t) := hK ▸ pg_any hc h hn hst
end
end Dn
set_option Elab.async false
set_option linter.all false
set_option maxRecDepth 100000
set_option maxHeartbeats 2000000
namespace Dn
open PySem L2
variable [CTab]
/-- while: R by what is left of the turns -/
theorem q_whileS {α : Type} {RR : α × List U} {β : Bs} {c : TT} {tu tz : TS} {D : Ends} {σ : L2.St} {H : Hp} {n : Nat} (R : Nat → L2.St → Hp → Prop) (h0 : R n σ H)
    (hs : ∀ m σ' H', R m σ' H' → ∃ k B ps us, ∃ (cF : SM Bool) (m1 m2 : SM α), m = k + 1 ∧ Wh β B H' ps us ∧ EvTS β.M ps σ' B c cF ∧ ifS cF m1 m2 us = some RR ∧
      (∀ B1 H1 us1, Wh β B1 H1 ps us1 → Same B B1 → m1 us1 = some RR → tu { D with nx := R k, ct := R k, bk := tz D } σ' H1) ∧ (∀ B1 H1 us1, Wh β B1 H1 ps us1 → Same B B1 → m2 us1 = some RR → tz D σ' H1)) : tSeq (tWhile c tu) tz D σ H := by
  refine ⟨R, ⟨n, h0⟩, fun m σ' H' r => ?_⟩
  obtain ⟨k, B, ps, us, cF, m1, m2, rfl, W, ht, e, h1, h2⟩ := hs m σ' H' r
  obtain ⟨b, us1, eb, e⟩ := bindS_some e
  refine ht _ _ _ eb B H' W.at W.w _ fun B2 H2 g2 w2 => ?_
  cases b with
  | true => exact ⟨R k, fun σ2 H3 r2 => ⟨k, Nat.lt_succ_self k, r2⟩, h1 B2 H2 us1 (W.step g2 w2) g2.b e⟩
  | false => exact h2 B2 H2 us1 (W.step g2 w2) g2.b e
end Dn
set_option Elab.async false
set_option linter.all false
set_option maxRecDepth 100000
set_option maxHeartbeats 2000000
namespace Dn
open PySem L2 PyProof.Rows HT
/-! ### t[::c] -/
section
variable {prog : Program} {w : World} {A : Around} {E : Value → Shared → Prop} {s : Shared}
theorem places_back (n : Nat) : Builtin.Slice.slicePlaces ((n : Int) - 1) (-1) (-1) = n := by
  unfold Builtin.Slice.slicePlaces
  rw [if_neg (by decide)]
  by_cases h : n = 0
  · subst h; rfl
  · rw [if_pos (by omega)]
    have e : (((n : Int) - 1 - -1 - 1) / (- -1)) = (n : Int) - 1 := by
      rw [show (- -1 : Int) = 1 by decide, Int.ediv_one]; omega
    rw [e]; omega
theorem applied_back {sl : Addr} {vl vu vs : Value} {n : Nat} {Q : Int × Int × Nat → Shared → Prop} (hs : s.heap.IsSliceOf sl vl vu vs) (pl : IsPart vl none) (pu : IsPart vu none) (ps : IsPart vs (some (-1)))
    (h : Q ((n : Int) - 1, -1, n) s) : wpAny (model prog w) A (Builtin.Slice.sliceApplied (.ref sl) (pure (n : Int))) Q E s := by
  obtain ⟨os, g1, _, g2⟩ := id hs
  unfold Builtin.Slice.sliceApplied Builtin.Slice.sliceFields
  refine wpAny_bind (wpAny_bind (wpAny_field g1 g2 (x := vl) rfl (wpAny_bind (wpAny_field g1 g2 (x := vu) rfl (wpAny_bind (wpAny_field g1 g2 (x := vs) rfl (wpAny_pure ?_)))))))
  refine wpAny_bind (slicePart_ ps ?_)
  show wpAny _ _ (if ((-1 : Int) == 0) = true then _ else _) _ _ s
  rw [if_neg (by decide)]
  refine wpAny_bind (slicePart_ pl (wpAny_bind (slicePart_ pu (wpAny_bind (wpAny_pure ?_)))))
  show wpAny _ _ (pure ((n : Int) - 1, (-1 : Int), Builtin.Slice.slicePlaces ((n : Int) - 1) (-1) (-1))) _ _ s
  rw [places_back]
  exact wpAny_pure h
theorem fm_congr {α β : Type} {f g : α → Option β} : ∀ {l : List α}, (∀ x ∈ l, f x = g x) → l.filterMap f = l.filterMap g
  | [], _ => rfl
  | x :: l, h => by
    rw [List.filterMap_cons, List.filterMap_cons, h x (List.mem_cons_self ..), fm_congr fun y hy => h y (List.mem_cons_of_mem _ hy)]
theorem pick_back (xs : List Value) : ((List.range xs.length).filterMap fun (k : Nat) => xs.toArray[(((xs.length : Nat) : Int) - 1 + (k : Int) * -1).toNat]?) = xs.reverse := by
  have key : ∀ k ∈ List.range xs.length, xs.toArray[(((xs.length : Nat) : Int) - 1 + (k : Int) * -1).toNat]? = xs.reverse[k]? := fun k hk => by
    have hk := List.mem_range.mp hk
    have e : (((xs.length : Nat) : Int) - 1 + (k : Int) * -1).toNat = xs.length - 1 - k := by omega
    rw [e, List.getElem?_toArray, List.getElem?_reverse hk]
  rw [fm_congr key]
  have key2 : ∀ ys : List Value, (List.range ys.length).filterMap (fun k => ys[k]?) = ys := fun ys => by
    induction ys with
    | nil => rfl
    | cons y ys ih =>
      rw [List.length_cons, List.range_succ_eq_map, List.filterMap_cons]
      simp only [List.getElem?_cons_zero, List.filterMap_map, Function.comp_def, List.getElem?_cons_succ]
      rw [ih]
  have := key2 xs.reverse
  rwa [List.length_reverse] at this
theorem item_tuple_back {t sl : Addr} {items : List Value} {vl vu vs : Value} {Q : Value → Shared → Prop} (ht : IsTup s.heap t items.toArray) (hs : s.heap.IsSliceOf sl vl vu vs) (pl : IsPart vl none) (pu : IsPart vu none) (ps : IsPart vs (some (-1)))
    (h : Q (.ref s.heap.objs.size) { s with heap := s.heap.push { cls := .type "tuple", data := .seq items.reverse.toArray } }) (hz : items.length ≤ sizeLine) : wpAny (model prog w) A (getItem (.ref t) (.ref sl)) Q E s := by
  obtain ⟨os, g1, g2, g3⟩ := id hs
  have ts : s.TypeIs (.ref sl) "slice" := ⟨os, g1, g2⟩
  have okz : sizeOk (.seq items.reverse.toArray) := by
    show items.reverse.toArray.size ≤ sizeLine
    rw [List.size_toArray, List.length_reverse]; exact hz
  unfold getItem
  try with_reducible refine wpAny_holding ?_
  first | refine wpAny_bind (wpAny_pure ?_) | skip
  refine wpAny_bind (wpAny_sequenceKey ht.typeIs (by decide) ?_)
  refine wpAny_bind (wpAny_callSpecial?_slot (name := Str.ofString "__getitem__") ht.typeIs PyProof.Rows.slot_tuple_getitem (wpAny_call_entry PyProof.Rows.slot_tuple_getitem ht.typeIs entry_tuple_getitem ?_ (args_tuple_getitem _ _)))
  show wpAny _ _ (Builtin.Tuple.tupleItemsOf (.ref t) >>= _) _ _ s
  refine wpAny_bind (tupleItemsOf_ ht (wpAny_bind (wpAny_typeOf ts ?_)))
  rw [if_pos (by decide)]
  refine wpAny_bind (applied_back hs pl pu ps ?_)
  have no : ¬ ((((items.toArray.size : Nat) : Int) - 1 == 0 && (-1 : Int) == 1 && items.toArray.size == items.toArray.size) = true) := by
    intro z
    rw [Bool.and_eq_true, Bool.and_eq_true] at z
    exact absurd z.1.2 (by decide)
  show wpAny _ _ (if (((items.toArray.size : Nat) : Int) - 1 == 0 && (-1 : Int) == 1 && items.toArray.size == items.toArray.size) = true then _ else _) _ _ s
  rw [if_neg no]
  have e : ((List.range items.toArray.size).filterMap fun (k : Nat) => items.toArray[(((items.toArray.size : Nat) : Int) - 1 + (k : Int) * -1).toNat]?).toArray = items.reverse.toArray := by
    rw [List.size_toArray, pick_back]
  rw [e]
  first
    | exact wpAny_bind (m := Builtin.Tuple.tupleExact _) (wpAny_newObj_type (wpAny_pure ⟨_, rfl, wpAny_pure h⟩) okz)
    | exact wpAny_bind (m := Builtin.Tuple.tupleExact _) (wpAny_newObj_type (wpAny_bind (wpAny_pure (wpAny_pure ⟨_, rfl, wpAny_pure h⟩))) okz)
    | exact wpAny_bind (wpAny_bind (m := Builtin.Tuple.tupleExact _) (wpAny_newObj_type (wpAny_pure (wpAny_pure ⟨_, rfl, wpAny_pure h⟩)) okz))
    | exact wpAny_bind (wpAny_bind (m := Builtin.Tuple.tupleExact _) (wpAny_newObj_type (wpAny_pure ⟨_, rfl, wpAny_pure h⟩) okz))
end
theorem pick_one (its : List Value) : slicePick its.toArray none none (some 1) = its.toArray := by
  have e : slicePick its.toArray none none (some 1) = slicePick its.toArray none none none := rfl
  rw [e, slicePick_cut]
  simp [HT.sIx]
def rStep (K : PySem.W.Frag) : V → Int → Hp → VK → Prop := fun x c H Q => ∃ a xs, x = .ref a ∧ ((c = 1 ∧ SqL K H a xs ∧ ∀ p, H p = none → Q (.ref p) (upd H p (.lst xs))) ∨ (c = -1 ∧ SqL K H a xs ∧ ∀ p, H p = none → Q (.ref p) (upd H p (.lst xs.reverse))) ∨
  (c = -1 ∧ SqT K H a xs ∧ ∀ p, H p = none → Q (.ref p) (upd H p (.tup xs.reverse))))
def tStep (K : PySem.W.Frag) (te ts : TE) : TE := fun σ H Q => te σ H fun x H1 => tPart ts σ H1 fun o H2 => ∃ c, o = some c ∧ rStep K x c H2 Q
section
variable {X : Cx}
theorem pe_step {e st : Expr} {te ts : TE} {p3 pos : Pos} (he : PE X e te) (hst : PE X st ts) : PE X (.Subscript e (.Slice none none (some st) p3) pos) (tStep X.K te ts) := by
  refine ⟨fun pins s σ H Q I h => ?_⟩
  refine Subscript_ (thn (he.run pins s σ H _ I h) fun v s1 ⟨x, H1, I1, r1, q1⟩ => ?_)
  refine wpAny_Slice (thn (po_none.run pins s1 σ H1 (fun o H2 => o = none ∧ H2 = H1) I1 ⟨rfl, rfl⟩) fun vl s2 ⟨l, H2, I2, pl, el, e2⟩ => ?_)
  subst el e2
  refine thn (po_none.run pins s2 σ H2 (fun o H3 => o = none ∧ H3 = H2) I2 ⟨rfl, rfl⟩) fun vu s3 ⟨u, H3, I3, pu, eu, e3⟩ => ?_
  subst eu e3
  refine thn ((po_some hst).run pins s3 σ H3 (fun o H4 => ∃ c, o = some c ∧ rStep X.K x c H4 Q) I3 q1) fun vs s4 ⟨o, H4, I4, ps, c, eo, a, xs, ex, q⟩ => ?_
  subst eo ex
  cases r1
  have I5 : Inv X pins σ H4 { s4 with heap := s4.heap.push { cls := .type "slice", data := .fields #[vl, vu, vs] } } := I4.kept (t' := s4.toks) fun b ob q => Heap.get?_push_of_some _ q
  show wpAny (model X.prog X.w) X.A (subscriptTail e (.Slice none none (some st) p3) (.ref a) (.ref s4.heap.objs.size)) (EP X pins σ Q) X.xe { s4 with heap := s4.heap.push { cls := .type "slice", data := .fields #[vl, vu, vs] } }
  rcases q with ⟨rfl, hx, q⟩ | ⟨rfl, hx, q⟩ | ⟨rfl, hx, q⟩
  · obtain ⟨its, r, ht, hz⟩ := I5.list hx
    have hlen := r.length
    refine tail_any (ops := [.ref a, .ref s4.heap.objs.size]) ht.isList.typeIs (PySem.slot_list_getitem.lookup) ?_ (by with_unfolding_all rfl)
    refine wpAny_getItem_list_slice ht.isList (Heap.IsSliceOf.new _ vl vu vs) pl pu ps (by decide) ?_ (by rw [List.size_toArray]; omega)
    rw [pick_one]
    refine ⟨.ref _, _, I5.laid (t' := s4.toks) (o := .lst xs) (fun b ob q => Heap.get?_push_of_some _ q) (Nat.le_refl _) ?_, rfl, q _ (I5.hok.fresh (Nat.le_refl _))⟩
    exact ⟨hz, _, 0, r, Heap.get?_push_size _ rfl⟩
  · obtain ⟨its, r, ht, hz⟩ := I5.list hx
    have hlen := r.length
    refine tail_any (ops := [.ref a, .ref s4.heap.objs.size]) ht.isList.typeIs (PySem.slot_list_getitem.lookup) ?_ (by with_unfolding_all rfl)
    refine wpAny_getItem_list_slice ht.isList (Heap.IsSliceOf.new _ vl vu vs) pl pu ps (by decide) ?_ (by rw [List.size_toArray]; omega)
    rw [PySem.W.krv_pick]
    refine ⟨.ref _, _, I5.laid (t' := s4.toks) (o := .lst xs.reverse) (fun b ob q => Heap.get?_push_of_some _ q) (Nat.le_refl _) ?_, rfl, q _ (I5.hok.fresh (Nat.le_refl _))⟩
    exact ⟨by rw [List.length_reverse]; exact hz, _, 0, r.reverse, Heap.get?_push_size _ rfl⟩
  · obtain ⟨its, r, ht, hz⟩ := I5.tuple hx
    have hlen := r.length
    refine tail_any (ops := [.ref a, .ref s4.heap.objs.size]) ht.typeIs (PyProof.Rows.slot_tuple_getitem.lookup) ?_ (by with_unfolding_all rfl)
    refine item_tuple_back ht (Heap.IsSliceOf.new _ vl vu vs) pl pu ps ?_ (by omega)
    refine ⟨.ref _, _, I5.laid (t' := s4.toks) (o := .tup xs.reverse) (fun b ob q => Heap.get?_push_of_some _ q) (Nat.le_refl _) ?_, rfl, q _ (I5.hok.fresh (Nat.le_refl _))⟩
    exact ⟨by rw [List.length_reverse]; exact hz, _, r.reverse, IsTup.new _ _⟩
theorem pe_stepK {K : PySem.W.Frag} {e st : Expr} {te ts : TE} {p3 pos : Pos} (hK : X.K = K) (he : PE X e te) (hst : PE X st ts) : PE X (.Subscript e (.Slice none none (some st) p3) pos) (tStep K te ts) := hK ▸ pe_step he hst
end
variable [CTab]
def stepV : U → U → Option U
  | .lst xs, .int c => if c = 1 then some (.lst xs) else if c = -1 then some (.lst xs.reverse) else none
  | .frl xs, .int c => if c = 1 then some (.lst xs) else if c = -1 then some (.lst xs.reverse) else none
  | .tup xs, .int c => if c = -1 then some (.tup xs.reverse) else none
  | _, _ => none
theorem Rps.rev {B : Hp} : ∀ {xs : List U} {vs : List V}, Rps B xs vs → Rps B xs.reverse vs.reverse
  | _, _, .nil => .nil
  | _, _, .cons h t => by
    rw [List.reverse_cons, List.reverse_cons]
    exact (Rps.rev t).append (.one h)
theorem rp_step {K : PySem.W.Frag} {B H : Hp} {x z : U} {v : V} {c : Int} {Q : VK} (e : stepV x (.int c) = some z) (s : Same B H) (r : Rp B x v) (q : ∀ v2 B2 H2, Go B H B2 H2 → Rp B2 z v2 → Q v2 H2) : rStep K v c H Q := by
  cases r with
  | @lst a xs vs h r =>
    have e : (if c = 1 then some (U.lst xs) else if c = -1 then some (.lst xs.reverse) else none) = some z := e
    refine ⟨a, vs, rfl, ?_⟩
    split at e
    · rename_i hc
      cases e
      exact .inl ⟨hc, SqL.of (s _ _ h), fun p hp => q _ _ _ (Go.new s hp) (.lst upd_same (r.new s hp))⟩
    · split at e
      · rename_i hc
        cases e
        exact .inr (.inl ⟨hc, SqL.of (s _ _ h), fun p hp => q _ _ _ (Go.new s hp) (.lst upd_same (r.rev.new s hp))⟩)
      · cases e
  | @frl a xs vs o h r =>
    have e : (if c = 1 then some (U.lst xs) else if c = -1 then some (.lst xs.reverse) else none) = some z := e
    refine ⟨a, vs, rfl, ?_⟩
    split at e
    · rename_i hc
      cases e
      exact .inl ⟨hc, .inl (.inr ⟨o, s _ _ h⟩), fun p hp => q _ _ _ (Go.new s hp) (.lst upd_same (r.new s hp))⟩
    · split at e
      · rename_i hc
        cases e
        exact .inr (.inl ⟨hc, .inl (.inr ⟨o, s _ _ h⟩), fun p hp => q _ _ _ (Go.new s hp) (.lst upd_same (r.rev.new s hp))⟩)
      · cases e
  | @tup a xs vs h r =>
    have e : (if c = -1 then some (U.tup xs.reverse) else none) = some z := e
    refine ⟨a, vs, rfl, ?_⟩
    split at e
    · rename_i hc
      cases e
      exact .inr (.inr ⟨hc, SqT.of (s _ _ h), fun p hp => q _ _ _ (Go.new s hp) (.tup upd_same (r.rev.new s hp))⟩)
    · cases e
  | _ => cases e
section
variable {σ : L2.St} {B H : Hp} {te ts : TE} {oa ob : Option U} {K : PySem.W.Frag} {M : Addr → Prop} {ps : List Addr} {F G : SM U}
theorem step_int {x y z : U} (e : stepV x y = some z) : ∃ c, y = .int c := by
  cases x <;> cases y <;> first | exact ⟨_, rfl⟩ | cases e
theorem eo_step (ha : EvO te σ B H oa) (hb : EvO ts σ B H ob) : EvO (tStep K te ts) σ B H (op2 stepV oa ob) := fun z e B1 H1 g Q q => by
  obtain ⟨x, ex, e⟩ := bind_some e
  obtain ⟨y, ey, e⟩ := bind_some e
  obtain ⟨c, rfl⟩ := step_int e
  refine ha x ex B1 H1 g _ fun v B2 H2 g2 r2 => hb _ ey B2 H2 (g.trans g2) _ fun w B3 H3 g3 r3 => ?_
  cases r3
  exact ⟨c, rfl, c, rfl, rp_step e g3.bh (r2.up g3) fun v2 B4 H4 g4 r4 => q v2 B4 H4 ((g2.trans g3).trans g4) r4⟩
theorem es_step (ha : EvS M ps σ B te F) (hb : EvS M ps σ B ts G) : EvS M ps σ B (tStep K te ts) (opS stepV F G) := fun us z us' e B1 H1 g w Q q => by
  obtain ⟨x, us1, ex, e⟩ := bindS_some e
  obtain ⟨y, us2, ey, e⟩ := bindS_some e
  obtain ⟨ee, rfl⟩ := pureS_some e; clear e
  obtain ⟨c, rfl⟩ := step_int ee
  refine ha _ _ _ ex B1 H1 g w _ fun v B2 H2 g2 r2 w2 => hb _ _ _ ey B2 H2 (g.trs g2) w2 _ fun v' B3 H3 g3 r3 w3 => ?_
  cases r3
  exact ⟨c, rfl, c, rfl, rp_step ee g3.bh (r2.upA g3.at) fun v2 B4 H4 g4 r4 => q v2 B4 H4 ((g2.trans g3).trans (.of g4)) r4 (w3.go g4)⟩
end
/-! ### what keeps a list of one's own a list -/
def LkA {α : Type} (j : Nat) (F : SM α) : Prop := ∀ us y us', F us = some (y, us') → ∀ xs, us'[j]? = some (.frl xs) → ∃ ys, us[j]? = some (.frl ys)
section
variable {j k : Nat}
theorem lk_bind {α β : Type} {F : SM α} {G : α → SM β} (h : LkA j F) (h2 : ∀ x, LkA j (G x)) : LkA j (bindS F G) := fun us y us' e xs ex => by
  obtain ⟨x, us1, e1, e2⟩ := bindS_some e
  obtain ⟨ys, ey⟩ := h2 x _ _ _ e2 xs ex
  exact h _ _ _ e1 ys ey
theorem lk_pure {α : Type} {o : Option α} : LkA j (pureS o) := fun us y us' e xs ex => by
  obtain ⟨_, rfl⟩ := pureS_some e
  exact ⟨xs, ex⟩
theorem lk_lockO {o : U → Option U} : LkA j (lockO k o) := fun us y us' e xs ex => by
  obtain ⟨u, _, e⟩ := bind_some e
  split at e
  · obtain ⟨z, _, e⟩ := bind_some e
    split at e
    · cases e; exact ⟨xs, ex⟩
    · cases e
  · cases e
theorem lk_lockT {o : U → Option Bool} : LkA j (lockT k o) := fun us y us' e xs ex => by
  obtain ⟨u, _, e⟩ := bind_some e
  split at e
  · obtain ⟨z, _, e⟩ := map_some e
    cases e; exact ⟨xs, ex⟩
  · cases e
theorem lk_set {us : List U} {u : U} {xs : List U} (h : k ≠ j) (ex : (us.set k u)[j]? = some (.frl xs)) : ∃ ys, us[j]? = some (.frl ys) := by
  rw [List.getElem?_set_ne h] at ex; exact ⟨xs, ex⟩
theorem lk_callM {m : U → List U → Option (U × U)} {xs : List U} (h : k ≠ j) : LkA j (callM k m xs) := fun us y us' e xs ex => by
  obtain ⟨u, _, e⟩ := bind_some e
  split at e
  · obtain ⟨z, _, e⟩ := map_some e
    cases e; exact lk_set h ex
  · cases e
theorem lk_pop {y : U} : LkA j (popS k y) := fun us z us' e xs ex => by
  unfold popS at e
  split at e
  · rename_i ys i eu
    split at e
    · obtain ⟨n, _, e⟩ := bind_some e
      obtain ⟨q, _, e⟩ := map_some e
      cases e
      by_cases h : k = j
      · subst h; exact ⟨_, eu⟩
      · exact lk_set h ex
    · cases e
  · cases e
theorem lk_app {y : U} : LkA j (appS k y) := fun us z us' e xs ex => by
  unfold appS at e
  split at e
  · rename_i ys eu
    split at e
    · cases e
      by_cases h : k = j
      · subst h; exact ⟨_, eu⟩
      · exact lk_set h ex
    · cases e
  · cases e
theorem lk_lockS {F : U → SM U} (h : ∀ u, LkA j (F u)) : LkA j (lockS k F) := fun us z us' e xs ex => by
  obtain ⟨u, eu, e⟩ := bind_some e
  split at e
  · obtain ⟨⟨r1, r2⟩, er, e⟩ := bind_some e
    split at e
    · cases e
      by_cases hk : k = j
      · subst hk
        have hl : k < r2.length := by
          rcases Nat.lt_or_ge k r2.length with q | q
          · exact q
          · rw [List.getElem?_eq_none (by simpa using q)] at ex; cases ex
        rw [List.getElem?_set_self hl] at ex
        cases ex
        exact ⟨_, eu⟩
      · rw [List.getElem?_set_ne hk] at ex
        obtain ⟨ys, ey⟩ := h u _ _ _ er xs ex
        rw [List.getElem?_set_ne hk] at ey
        exact ⟨ys, ey⟩
    · cases e
  · cases e
theorem lk_take : LkA j (takeS k) := fun us z us' e xs ex => by
  unfold takeS at e
  split at e
  · rename_i ys eu
    cases e
    by_cases h : k = j
    · subst h; exact ⟨_, eu⟩
    · exact lk_set h ex
  · cases e
end
end Dn
set_option Elab.async false
set_option linter.all false
set_option maxRecDepth 100000
set_option maxHeartbeats 2000000
namespace Dn
open PySem L2
variable [CTab]
section
variable {α : Type} {R : α × List U} {β : Bs} {σ : L2.St} {B H : Hp} {ps : List Addr} {us : List U} {K : PySem.W.Frag} {ta tb : TE} {tz : TS} {D : Ends} {F G : SM U} {i j : Nat}
/-- a, b = .. by a tuple that nobody keeps -/
theorem two_cells {v w : V} {ps2 : List Addr} {us1 : List U} {Q : L2.St → Hp → Prop} (W : Wh β B H ps2 us1) (k : ∀ H1, Wh β B H1 ps2 us1 → Q ((σ.set i (some v)).set j (some w)) H1) :
    [v, w].length ≤ sizeLine ∧ ∀ p, H p = none → gTup K 2 (gCons (gName i) (gCons (gName j) gNil)) (.ref p) σ (upd H p (.tup [v, w])) Q :=
  ⟨by show 2 ≤ sizeLine; decide, fun p hp => ⟨p, _, rfl, SqT.of upd_same, rfl, _, _, rfl, _, _, rfl, rfl, k _ (W.go (Go.own W.s hp))⟩⟩
theorem q_tupNN {f : SM α} (W : Wh β B H ps us) (ha : EvN β.M ps σ B ta F) (hb : EvN β.M ps σ B tb G) (e : bindS F (fun x => bindS G fun y => addS x (addS y f)) us = some R)
    (k : ∀ p q B1 H1 us1, Wh β B1 H1 (ps ++ [p, q]) us1 → Same B B1 → f us1 = some R → tz D ((σ.set i (some (.ref p))).set j (some (.ref q))) H1) : tSeq (tAsg (tTup (tCons ta (tCons tb tNil))) (gTup K 2 (gCons (gName i) (gCons (gName j) gNil)))) tz D σ H := by
  obtain ⟨x, us1, ex, e⟩ := bindS_some e
  obtain ⟨y, us2, ey, e⟩ := bindS_some e
  refine ha _ _ _ ex B H W.at W.w _ fun p B2 H2 g2 n2 b2 o2 w2 => hb _ _ _ ey B2 H2 (W.at.trs g2) w2 _ fun q B3 H3 g3 n3 b3 o3 w3 => ?_
  obtain ⟨ob, eb⟩ := o2.ex
  have hnp : p ∉ ps := W.w.fresh n2
  have hpq : q ≠ p := fun z => by rw [z, eb] at n3; cases n3
  have o2' : OwnAt B3 H3 p x := o2.up (fun o e => g3.h p o e hnp) g3.b
  have W1 := W.new (u := x) (g2.trans g3) w3 n2 (g3.noB b2 eb hnp) o2'
  have hq : q ∉ ps ++ [p] := fun z => by
    rcases List.mem_append.mp z with z | z
    · exact w2.fresh n3 z
    · simp at z; exact hpq z
  have W2 : Wh β B3 H3 ((ps ++ [p]) ++ [q]) ((us2 ++ [x]) ++ [y]) := ⟨W1.g, W1.w.add hq ⟨.inr (W.g.n q (g2.n q n3)), o3.ex, .inr ⟨b3, o3⟩⟩, fun r hr => by
    have := W1.hd r hr
    cases ps with
    | nil => simpa using this
    | cons a t => simpa using this⟩
  rw [List.append_assoc] at W2
  exact two_cells W2 fun H4 W4 => k p q B3 H4 _ W4 (g2.b.trans g3.b) e
theorem q_tupNV {f : U → SM α} (W : Wh β B H ps us) (ha : EvN β.M ps σ B ta F) (hb : EvS β.M ps σ B tb G) (e : bindS F (fun x => bindS G fun y => addS x (f y)) us = some R)
    (k : ∀ p y w B1 H1 us1, Rp B1 y w → Wh β B1 H1 (ps ++ [p]) us1 → Same B B1 → f y us1 = some R → tz D ((σ.set i (some (.ref p))).set j (some w)) H1) : tSeq (tAsg (tTup (tCons ta (tCons tb tNil))) (gTup K 2 (gCons (gName i) (gCons (gName j) gNil)))) tz D σ H := by
  obtain ⟨x, us1, ex, e⟩ := bindS_some e
  obtain ⟨y, us2, ey, e⟩ := bindS_some e
  refine ha _ _ _ ex B H W.at W.w _ fun p B2 H2 g2 n2 b2 o2 w2 => hb _ _ _ ey B2 H2 (W.at.trs g2) w2 _ fun v B3 H3 g3 r3 w3 => ?_
  obtain ⟨ob, eb⟩ := o2.ex
  have hnp : p ∉ ps := W.w.fresh n2
  have o2' : OwnAt B3 H3 p x := o2.up (fun o e => g3.h p o e hnp) g3.b
  exact two_cells (W.new (u := x) (g2.trans g3) w3 n2 (g3.noB b2 eb hnp) o2') fun H4 W4 => k p y v B3 H4 _ r3 W4 (g2.b.trans g3.b) e
theorem q_tupVN {f : U → SM α} (W : Wh β B H ps us) (ha : EvS β.M ps σ B ta F) (hb : EvN β.M ps σ B tb G) (e : bindS F (fun y => bindS G fun x => addS x (f y)) us = some R)
    (k : ∀ p y w B1 H1 us1, Rp B1 y w → Wh β B1 H1 (ps ++ [p]) us1 → Same B B1 → f y us1 = some R → tz D ((σ.set i (some w)).set j (some (.ref p))) H1) : tSeq (tAsg (tTup (tCons ta (tCons tb tNil))) (gTup K 2 (gCons (gName i) (gCons (gName j) gNil)))) tz D σ H := by
  obtain ⟨x, us1, ex, e⟩ := bindS_some e
  obtain ⟨y, us2, ey, e⟩ := bindS_some e
  refine ha _ _ _ ex B H W.at W.w _ fun v B2 H2 g2 r2 w2 => hb _ _ _ ey B2 H2 (W.at.trs g2) w2 _ fun p B3 H3 g3 n3 b3 o3 w3 => ?_
  exact two_cells (W.new (u := y) (g2.trans g3) w3 (g2.n p n3) b3 o3) fun H4 W4 => k p x v B3 H4 _ (r2.upA g3.at) W4 (g2.b.trans g3.b) e
end
/-! ### a dict display with one pair, one's own -/
section
variable {M : Addr → Prop} {ps : List Addr} {σ : L2.St} {B H : Hp} {F G : SM U} {tk tv : TE}
def disp1S (F G : SM U) : SM U := bindS F fun x => bindS G fun y => pureS (x.key.map fun k => U.dic [(k, y)])
theorem en_disp1 (ha : EvS M ps σ B tk F) (hb : EvS M ps σ B tv G) : EvN M ps σ B (tDisp [(tk, tv)]) (disp1S F G) := fun us z us' e B1 H1 g w Q q => by
  obtain ⟨x, us1, ex, e⟩ := bindS_some e
  obtain ⟨y, us2, ey, e⟩ := bindS_some e
  obtain ⟨ee, rfl⟩ := pureS_some e; clear e
  obtain ⟨k, ek, ee⟩ := map_some ee
  subst ee
  intro p hp
  have g0 : Go B1 H1 B1 (upd H1 p (.dK [])) := Go.own g.bh hp
  have hnp : p ∉ ps := w.fresh hp
  refine ha _ _ _ ex B1 _ (g.trans g0) (w.go g0) _ fun v B2 H2 g2 r2 w2 => hb _ _ _ ey B2 H2 ((g.trans g0).trs g2) w2 _ fun v' B3 H3 g3 r3 w3 => ?_
  have e2 : H2 p = some (.dK []) := g2.h _ _ upd_same hnp
  have e3 : H3 p = some (.dK []) := g3.h _ _ e2 hnp
  have b1 : B1 p = none := g.bh.free hp
  have b3 : B3 p = none := g3.noB (g2.noB b1 upd_same hnp) e2 hnp
  refine ⟨e3, [(k, v')], ?_, (by show 1 ≤ 15; decide), ?_⟩
  · rw [r2.key ek]; rfl
  · have g13 : Gs (inP ps) B1 H1 B3 H3 := ((Gs.of g0).trans g2).trans g3
    have g4 : Gs (inP ps) B1 H1 B3 (upd H3 p (.dK (mergeK [] [(k, v')]))) := ⟨fun a o e hm => by
        have hap : a ≠ p := ne_of_none e hp
        rw [upd_ne hap]; exact g13.h a o e hm, fun a e => by
        by_cases hap : a = p
        · subst hap; exact hp
        · rw [upd_ne hap] at e; exact g13.n a e, g13.b, same_upd g13.bh b3, g13.fr⟩
    refine q p B3 _ g4 hp b3 ⟨_, upd_same, .cons r3 .nil⟩ ?_
    exact w3.keep (fun a ha o e => by rw [upd_ne (mem_ne ha hnp)]; exact e) (Same.refl _) (fun a _ hb => hb)
end
/-! ### a new object made while another one is looked at -/
def lockN (j : Nat) (F : U → SM U) : SM U := fun us => us[j]?.bind fun u => if u.own = true then (F u (us.set j .non)).bind fun r => if r.1.plc = true ∧ r.2.all U.plc = true then some (r.1, r.2.set j u) else none else none
section
variable {M : Addr → Prop} {ps : List Addr} {σ : L2.St} {B H : Hp} {te : TE} {j : Nat} {p : Addr}
theorem en_lockN {F : U → SM U} (hp : ps[j]? = some p) (h : ∀ u B', Same B B' → Rp B' u (.ref p) → EvN M ps σ B' te (F u)) : EvN M ps σ B (tLockE te) (lockN j F) := fun us z us' e B1 H1 g w Q q => by
  obtain ⟨u, eu, e⟩ := bind_some e
  split at e
  · rename_i ho
    obtain ⟨⟨z1, us2⟩, ez, e⟩ := bind_some e
    split at e
    · rename_i hz
      cases e
      have wp := w.at_ j p u hp eu
      obtain ⟨hb, ow⟩ := wp.own ho
      obtain ⟨o1, e1, mu, hl⟩ := ow.lock
      refine ⟨p, o1, e1, mu, fun od => ?_⟩
      have r1 : Rp (upd B1 p (.frz od o1)) u (.ref p) := (hl od).resolve_right (fun z => z hb)
      have s1 : Same (upd B1 p (.frz od o1)) (upd H1 p (.frz od o1)) := fun b x hx => by
        by_cases hbp : b = p
        · subst hbp; rw [upd_same] at hx ⊢; exact hx
        · rw [upd_ne hbp] at hx ⊢; exact g.bh b x hx
      have w1 : Ows M (upd B1 p (.frz od o1)) (upd H1 p (.frz od o1)) ps (us.set j .non) :=
        w.set hp (fun q _ hq o e => by rw [upd_ne hq]; exact e) (same_lock hb) (fun q _ hq hn => by rw [upd_ne hq]; exact hn) ⟨wp.m, ⟨_, upd_same⟩, .inl rfl⟩
      refine h u _ (g.b.trans (same_lock hb)) r1 _ _ _ ez _ _ (At.refl s1) w1 _ fun q0 B2 H2 g2 n2 b2 o2 w2 => ?_
      have eB : B2 p = some (.frz od o1) := g2.b _ _ upd_same
      have eH : H2 p = some (.frz od o1) := g2.bh _ _ eB
      have er : ∀ a o, B2 a = some o → a ≠ p → eraseB B2 p a = some o := fun a x hx ha => by rw [erase_ne ha]; exact hx
      have sB : Same B1 (eraseB B2 p) := fun a x hx => by
        have ha : a ≠ p := ne_of_none hx hb
        rw [erase_ne ha]; exact g2.b a x (by rw [upd_ne ha]; exact hx)
      have gg : Gs (inP ps) B1 H1 (eraseB B2 p) (upd H2 p o1) := by
        refine ⟨fun a x hx hm => ?_, fun a hx => ?_, sB, fun a x hx => ?_, fun a x hx => ?_⟩
        · have ha : a ≠ p := fun z => hm (by rw [z]; exact List.mem_of_getElem? hp)
          rw [upd_ne ha]; exact g2.h a x (by rw [upd_ne ha]; exact hx) hm
        · by_cases ha : a = p
          · subst ha; rw [upd_same] at hx; cases hx
          · rw [upd_ne ha] at hx
            have := g2.n a hx
            rwa [upd_ne ha] at this
        · by_cases ha : a = p
          · subst ha; rw [erase_same] at hx; cases hx
          · rw [erase_ne ha] at hx; rw [upd_ne ha]; exact g2.bh a x hx
        · by_cases ha : a = p
          · subst ha; rw [erase_same] at hx; cases hx
          · rw [erase_ne ha] at hx
            rcases g2.fr a x hx with z | z | z
            · rw [upd_ne ha] at z; exact .inl z
            · rw [upd_ne ha] at z; exact .inr (.inl z)
            · exact .inr (.inr z)
      have hj : j < us2.length := by rw [w2.len]; exact (List.getElem?_eq_some_iff.mp hp).1
      have wf : Ows M (eraseB B2 p) (upd H2 p o1) ps (us2.set j u) := by
        refine ⟨by rw [List.length_set, w2.len], w2.nd, fun i q v hq hv => ?_⟩
        by_cases hij : i = j
        · subst hij
          rw [hp] at hq; cases hq
          rw [List.getElem?_set_self hj] at hv; cases hv
          exact ⟨wp.m, ⟨_, upd_same⟩, .inr ⟨erase_same, ow.up (fun o e => by rw [upd_same, ← e1]; exact e) sB⟩⟩
        · rw [List.getElem?_set_ne (Ne.symm hij)] at hv
          have hne : q ≠ p := fun z => hij (w2.nd i j q hq (by rw [z]; exact hp))
          obtain ⟨q1, ⟨o, q2⟩, q3⟩ := w2.at_ i q v hq hv
          refine ⟨q1, ⟨o, by rw [upd_ne hne]; exact q2⟩, ?_⟩
          rcases q3 with q3 | ⟨q3, q4⟩
          · exact .inl q3
          · refine .inr ⟨by rw [erase_ne hne]; exact q3, q4.erase eB er (upd_ne hne) ?_⟩
            exact List.all_eq_true.mp hz.2 v (List.mem_of_getElem? hv)
      have hq0 : q0 ≠ p := fun z => by rw [z, upd_same] at n2; cases n2
      rw [upd_ne hq0] at n2
      exact ⟨eH, q q0 _ _ gg n2 (by rw [erase_ne hq0]; exact b2) (o2.erase eB er (upd_ne hq0) hz.1) wf⟩
    · cases e
  · cases e
end
theorem ps_lockA {X : Cx} {st : Stmt} {te : TE} {i : Nat} (h : PS X st (tAsg te (gName i))) : PS X st (tAsg (tLockE te) (gName i)) := ps_lock h
/-! ### what is never asked -/
def tNeverE : TE := fun _ _ _ => False
theorem pe_never {X : Cx} {e : Expr} : PE X e tNeverE := ⟨fun _ _ _ _ _ _ h => h.elim⟩
theorem eo_never {σ : L2.St} {B H : Hp} : EvO tNeverE σ B H none := fun _ e => nomatch e
end Dn
set_option Elab.async false
set_option linter.all false
set_option maxRecDepth 100000
set_option maxHeartbeats 2000000
namespace Dn
/-- the table of modules stands in the base -/
def SmB (b : PySem.Heap) : Prop := ∃ o, b.get? PySem.sysModules = some o
open PySem L2 PySem.Spec PyProof.Rows
section
variable [CTab]
/-! ### max, min of a list -/
def rMaxA (K : PySem.W.Frag) : List V → Hp → VK → Prop := fun xs H Q => rMax K xs H Q ∨ ∃ i j, xs = [V.int i, .int j] ∧ Q (.int (if j > i then j else i)) H
theorem call_maxK {X : Cx} {K : PySem.W.Frag} (hK : X.K = K) (hc : X.calm = true) : CallR X (.builtin "max") (rMaxA K) := hK ▸ CallR.or (cr_max hc) (call_max2 hc)
def maxL : List Int → Option Int
  | [] => none
  | n :: r => some (r.foldl max n)
def maxA : List U → Option U
  | [.lst xs] => ((intsU xs).bind maxL).map U.int
  | xs => maxU xs
theorem maxL_mem : ∀ {ns : List Int} {m : Int}, maxL ns = some m → m ∈ ns ∧ ∀ y ∈ ns, y ≤ m := by
  have key : ∀ (r : List Int) (n : Int), (r.foldl max n = n ∨ r.foldl max n ∈ r) ∧ n ≤ r.foldl max n ∧ ∀ y ∈ r, y ≤ r.foldl max n := by
    intro r
    induction r with
    | nil => intro n; exact ⟨.inl rfl, Int.le_refl _, fun y h => by cases h⟩
    | cons a r ih =>
      intro n
      obtain ⟨h1, h2, h3⟩ := ih (max n a)
      rw [List.foldl_cons]
      refine ⟨?_, by omega, fun y hy => ?_⟩
      · rcases h1 with h1 | h1
        · rcases Int.le_total n a with q | q
          · rw [h1, Int.max_eq_right q]; exact .inr (List.mem_cons_self ..)
          · rw [h1, Int.max_eq_left q]; exact .inl rfl
        · exact .inr (List.mem_cons_of_mem _ h1)
      · rcases List.mem_cons.mp hy with rfl | hy
        · omega
        · exact h3 y hy
  intro ns m h
  cases ns with
  | nil => cases h
  | cons n r =>
    cases h
    obtain ⟨h1, h2, h3⟩ := key r n
    refine ⟨?_, fun y hy => ?_⟩
    · rcases h1 with h1 | h1
      · rw [h1]; exact List.mem_cons_self ..
      · exact List.mem_cons_of_mem _ h1
    · rcases List.mem_cons.mp hy with rfl | hy
      · exact h2
      · exact h3 y hy
theorem rc_maxA {K : PySem.W.Frag} : RC (rMaxA K) maxA := fun xs z e vs B H s rs Q q => by
  unfold maxA at e
  split at e
  · rename_i l
    obtain ⟨m, em, e⟩ := map_some e
    subst e
    obtain ⟨ns, en, em⟩ := bind_some em
    obtain ⟨h1, h2⟩ := maxL_mem em
    cases rs with
    | cons r1 t =>
      cases t
      cases r1 with
      | @lst a _ ws h r =>
        refine .inl ⟨a, ns, rfl, by rw [← r.intsOf en]; exact SqL.of (s _ _ h), List.length_pos_of_mem h1, fun m' h3 h4 => ?_⟩
        have : m' = m := Int.le_antisymm (h2 _ h3) (h4 _ h1)
        subst this
        exact q _ B H (Go.refl s) (.int _)
  · exact .inr (rc_max _ _ e _ _ _ s rs Q q)
/-! ### repr -/
mutual
def U.py : U → Option PyData
  | .non => some .none
  | .bl b => some (.bool b)
  | .int i => some (.int i)
  | .str z => some (.str z)
  | .tup xs => (U.pys xs).map PyData.tuple
  | .tpd xs => (U.pys xs).map PyData.tuple
  | .lst xs => (U.pys xs).map PyData.list
  | _ => none
def U.pys : List U → Option (List PyData)
  | [] => some []
  | x :: xs => (U.py x).bind fun d => (U.pys xs).map fun r => d :: r
end
section
variable {K : PySem.W.Frag} {H : Hp}
mutual
theorem Rp.dp : ∀ {x : U} {v : V} {d : PyData}, Rp H x v → x.py = some d → Dp K H v d
  | _, _, _, .non, e => by cases e; exact .non
  | _, _, _, .bl b, e => by cases e; exact .bl b
  | _, _, _, .int b, e => by cases e; exact .int b
  | _, _, _, .str b, e => by cases e; exact .str b
  | _, _, _, @Rp.tup _ _ a xs vs h r, e => by
    obtain ⟨ds, e1, e⟩ := map_some (show (U.pys xs).map PyData.tuple = _ by simpa [U.py] using e)
    subst e
    exact .tup (SqT.of h) (Rps.dp r e1)
  | _, _, _, @Rp.lst _ _ a xs vs h r, e => by
    obtain ⟨ds, e1, e⟩ := map_some (show (U.pys xs).map PyData.list = _ by simpa [U.py] using e)
    subst e
    exact .lst (SqL.of h) (Rps.dp r e1)
  | _, _, _, .frl _ _, e => by simp [U.py] at e
  | _, _, _, .dic _ _, e => by simp [U.py] at e
  | _, _, _, .dit _ _, e => by simp [U.py] at e
  | _, _, _, .dib _ _ _, e => by simp [U.py] at e
  | _, _, _, .mt, e => by simp [U.py] at e
  | _, _, _, .exc0 _, e => by simp [U.py] at e
  | _, _, _, .exc _ _ _, e => by simp [U.py] at e
  | _, _, _, @Rp.tpd _ _ a xs vs o h _ r, e => by
    obtain ⟨ds, e1, e⟩ := map_some (show (U.pys xs).map PyData.tuple = _ by simpa [U.py] using e)
    subst e
    exact .tup (.inl (.inr ⟨o, h⟩)) (Rps.dp r e1)
  | _, _, _, .obj _ _ _, e => by simp [U.py] at e
theorem Rps.dp : ∀ {xs : List U} {vs : List V} {ds : List PyData}, Rps H xs vs → U.pys xs = some ds → DpAll K H vs ds
  | _, _, _, .nil, e => by simp [U.pys] at e; subst e; exact .nil
  | _, _, _, @Rps.cons _ _ x v xs vs h r, e => by
    obtain ⟨d, e1, e⟩ := bind_some (show (U.py x).bind (fun d => (U.pys xs).map fun r => d :: r) = _ by simpa [U.pys] using e)
    obtain ⟨ds, e2, e⟩ := map_some e
    subst e
    exact .cons (Rp.dp h e1) (Rps.dp r e2)
end
end
def rRepr (K : PySem.W.Frag) : List V → Hp → VK → Prop := fun xs H Q => ∃ v d, xs = [v] ∧ Dp K H v d ∧ d.showable = true ∧ d.hasDict = false ∧ d.depth ≤ 40 ∧ d.shown.length ≤ sizeLine ∧ Q (.str d.shown) H
theorem call_repr {X : Cx} (hg : X.A.guards = some []) (hu : X.A.units + 64 < cLine) : CallR X (.builtin "repr") (rRepr X.K) := by
  intro pins s σ H xs us Q I rx h
  obtain ⟨v, d, rfl, hd, h1, h2, h3, h4, q⟩ := h
  obtain ⟨u, rfl, ru⟩ := vals1 rx
  obtain ⟨as, rd⟩ := Dp.reads I d v u hd ru
  cases hd with
  | non => cases ru; exact PySem.P.repr_of_none ⟨.str _, H, I.kept (t' := s.toks + 1) (fun b o e => e), ⟨_, rfl⟩, q⟩
  | bl b => cases ru; exact PySem.P.repr_of_bool ⟨.str _, H, I.kept (t' := s.toks + 1) (fun b o e => e), ⟨_, rfl⟩, q⟩
  | int i =>
    obtain ⟨t, rfl⟩ := ru
    exact PySem.P.repr_of_int (by simpa [PyData.showable] using h1) ⟨.str _, H, I.kept (t' := s.toks + 1) (fun b o e => e), ⟨_, rfl⟩, q⟩
  | str i =>
    obtain ⟨t, rfl⟩ := ru
    exact PySem.P.repr_of_str ⟨.str _, H, I.kept (t' := s.toks + 1) (fun b o e => e), ⟨_, rfl⟩, q⟩ h4
  | @lst a xs ds e1 e2 =>
    cases ru
    exact repr_of_reads' rd h1 (fun z => by rw [h2] at z; cases z) hg (by omega) (fun b o e => e) (fun h' u tk hk => ⟨.str _, H, I.kept (t' := tk) hk, ⟨_, rfl⟩, q⟩) h4
  | @tup a xs ds e1 e2 =>
    cases ru
    exact repr_of_reads' rd h1 (fun z => by rw [h2] at z; cases z) hg (by omega) (fun b o e => e) (fun h' u tk hk => ⟨.str _, H, I.kept (t' := tk) hk, ⟨_, rfl⟩, q⟩) h4
theorem call_reprK {X : Cx} {K : PySem.W.Frag} (hK : X.K = K) (hg : X.A.guards = some []) (hu : X.A.units + 64 < cLine) : CallR X (.builtin "repr") (rRepr K) := hK ▸ call_repr hg hu
def reprV : U → Option U := fun x => x.py.bind fun d => if d.showable = true ∧ d.hasDict = false ∧ d.depth ≤ 40 ∧ d.shown.length ≤ lim then some (.str d.shown) else none
theorem rc_repr {K : PySem.W.Frag} : RC (rRepr K) (c1 reprV) := rc_one c1_one fun x z e v B H s rx Q q => by
  obtain ⟨d, ed, e⟩ := bind_some (show x.py.bind _ = _ from e)
  split at e
  · rename_i h
    cases e
    exact ⟨v, d, rfl, (rx.in s).dp ed, h.1, h.2.1, h.2.2.1, lim_size h.2.2.2, q _ B H (Go.refl s) (.str _)⟩
  · cases e
end
/-! ### defs that ask who is being shown -/
structure FnG (P : Program) (w : World) (K : PySem.W.Frag) (mg : Str → Option Value) (base : Heap) (CX : CXT) (k : Nat) (f : Addr) (fd : FuncData) (ps : List Str) (sp : Sp) : Prop where
  len : ∀ vs H Q E, sp vs H Q E → vs.length = ps.length
  run : ∀ (A : Around) (outer : List Env) (s : Shared) (H : Hp) (args : Args) (us : List Value) (vs : List V) (Q : VK) (E : XK), A.guards = some [] → Room k A → Env0 P w K mg base A outer s H → BindsTo s fd args (ps.zip us) → Vals vs us → sp vs H Q E →
    codeAny (model P w) A (.call (.ref f) args) (CR CX outer P w H s Q E) s
section
variable {P : Program} {w : World} {K : PySem.W.Frag} {mg : Str → Option Value} {base : Heap}
theorem FnG.of {CX : CXT} {k : Nat} {f : Addr} {fd : FuncData} {ps : List Str} {sp : Sp} (F : FnOk P w K mg base CX k f fd ps sp) : FnG P w K mg base CX k f fd ps sp := ⟨F.len, fun A outer s H args us vs Q E _ => F.run A outer s H args us vs Q E⟩
theorem Fun.okG {x qual : Str} {st : Stmt} {f : Addr} {fd : FuncData} {N ps : List Str} {k : Nat} {sp : Sp} (F : Fun K x qual st f fd) (S : FnScope N ps (defScope st)) (len : ∀ vs H Q E, sp vs H Q E → vs.length = ps.length)
    (hb : ∀ (cdv : Value) (A : Around) (outer : List Env) (s : Shared) (H : Hp) (vs : List V) (Q : VK) (E : XK), A.guards = some [] → Room k (A.deeper (envOfC qual (defScope st) s.heap.objs.size f cdv)) → sp vs H Q E →
      ∃ t, PSs (cxOf CX0 P w K mg base N qual (defScope st) f cdv A outer s H E).nox (defBody st) t ∧ t { nx := fun _ H' => Q .non H', rt := Q } (start N vs) H) : FnG P w K mg base CX0 (k + 1) f fd ps sp := by
  obtain ⟨oc, od, kV, doc, pm, an, cdv, ct, osl, rfl, lk, cd⟩ := F.ex
  refine ⟨len, fun A outer s H args us vs Q E hg hr e0 hbn r sp1 => ?_⟩
  have ln := len _ _ _ _ sp1
  have kin : K.In s.heap := e0.mod.kin.keeps fun b o e => (e0.bs b o e).1
  have nl : s.heap.NoLimit := e0.mod.nolimit.keeps fun b o e => (e0.bs b o e).1
  have kd : ∀ y ∈ ps.zip us, (defScope st).names.lookup y.1 = some .local ∨ ((defScope st).names.lookup y.1 = some .cell ∧ ((cellsFrom (s.heap.objs.size + 1) (defScope st).names []).lookup y.1).isSome = true) := fun ⟨n, v⟩ hy => by
    rcases S.par n (List.of_mem_zip hy).1 with z | z
    · exact .inl z
    · exact .inr ⟨z, PySem.W.cellsFrom_some _ _ _ (.inl z)⟩
  refine codeAny_call_function hr.depth (kin _ _ lk) rfl S.co S.gen rfl (PySem.W.codeRec_of kin cd) (hbn _ _ _ _ ?_)
  refine wpAny_newFunctionEnv_cells S.kind kd fun env he s1 x1 => ?_
  subst he
  refine ⟨nl.keeps x1.toInCall.keep, codeAny_func ?_⟩
  obtain ⟨t, ht, q⟩ := hb cdv A outer s H vs Q E hg (hr.deeper _) sp1
  have I : Inv (cxOf CX0 P w K mg base N qual (defScope st) f cdv A outer s H E) [] (start N vs) H s1 := inv_start S hr.hd e0 ln r x1
  refine wpAny_mono (ht.nox.run [] s1 (start N vs) H _ I q) (fun fl s2 hs => ?_) fun e s2 hs => hs
  cases fl with
  | ret u =>
    obtain ⟨v, σ2, H2, J, rv, q2⟩ := hs
    exact ⟨v, H2, J.os, J.bare, J.base, J.hok, rv, q2⟩
  | next =>
    obtain ⟨σ2, H2, J, q2⟩ := hs
    exact ⟨V.non, H2, J.os, J.bare, J.base, J.hok, rfl, q2⟩
  | brk =>
    obtain ⟨_, _, _, q2⟩ := hs
    exact False.elim q2
  | cont =>
    obtain ⟨_, _, _, q2⟩ := hs
    exact False.elim q2
end
section
variable {X : Cx} {CX : CXT} {k : Nat} {f : Addr} {fd : FuncData} {ps : List Str} {sp : Sp} {dvs : List V} {ds : List Value} {E : XK} {x : Str} {p pos : Pos} {e : Expr} {es : List Expr} {t : TA}
theorem pe_callG (F : FnG X.prog X.w X.K X.mg X.base CX k f fd ps sp) (hg0 : X.A.guards = some []) (hr : Room k X.A) (hg : Gl X x) (hm : X.mg x = some (.ref f)) (hk : PySem.W.keepIn X.K (.ref f) = true) (hb : Binds X.K fd ps ds) (hd : Vals dvs ds) (hx : Passes CX X E)
    (ha : PA X (e :: es) t) (hdb : (x == ("__debug__" : Str)) = false := by decide) (he : starEach (e :: es) X.env = (false, eval e X.env) :: starEach es X.env := by rfl) (hpl : (backTo pos (starEach es X.env)).any (·.1) = false := by rfl) :
    PE X (.Call (.Name x p) (e :: es) [] pos) (tCall sp dvs E t) := by
  refine ⟨fun pins s σ H Q I h => ?_⟩
  refine wpAny_Call_Name_kw (ld_glob I hg hm ?_ hdb)
  refine PySem.W.callWith_K (h₀ := X.base) I.ok.mod.kin hk (thn (ha.run pos pins s σ H _ I h) fun us s1 ⟨vs, H1, I1, r, q⟩ => ⟨I1.kIn, ?_⟩) he hpl
  have r2 : Vals (vs ++ dvs) (us ++ ds) := r.append hd
  have hl : (us ++ ds).length = ps.length := by rw [← r2.length]; exact F.len _ _ _ _ q
  refine wpAny_call (codeAny_mono (F.run X.A X.stack s1 H1 ⟨us, []⟩ (us ++ ds) (vs ++ dvs) Q E hg0 hr I1.env0 (hb s1 us I1.kIn hl) r2 q) fun r s2 hq => ?_)
  cases r with
  | error e => exact hx pins σ H1 s1 e s2 I1 hq
  | ok fl =>
    cases fl with
    | ret u => exact I1.after hq
    | next => exact False.elim hq
    | brk => exact False.elim hq
    | cont => exact False.elim hq
end
end Dn
set_option Elab.async false
set_option linter.all false
set_option maxRecDepth 100000
set_option maxHeartbeats 2000000
namespace Dn
open PySem L2 PySem.Spec PyProof.Rows
/-! ### what comes behind a loop -/
def withK {κ α : Type} (K : κ) (f : κ → α) : α := f K
theorem q_withS {κ α : Type} {K : κ} {f : κ → SM α} {us : List U} {R : α × List U} {G : Prop} (e : withK K f us = some R) (k : ∀ K', K' = K → f K' us = some R → G) : G := k K rfl e
theorem q_withO {κ α : Type} {K : κ} {f : κ → Option α} {R : α} {G : Prop} (e : withK K f = some R) (k : ∀ K', K' = K → f K' = some R → G) : G := k K rfl e
/-! ### the end of a law whose defs ask who is being shown -/
section
variable {P : Program} {w : World} {K : PySem.W.Frag} {mg mb : Str → Option Value} {s1 : Shared} {a : Addr} {vs : List Value} {ns : List Int}
/-- where the law begins: only the script is tracked -/
structure Beg (P : Program) (w : World) (K : PySem.W.Frag) (mg : Str → Option Value) (s1 : Shared) (a : Addr) (ns : List Int) (H : Hp) : Prop where
  only : Only H
  sq : SqL K H a (ns.map V.int)
  ok : HOk P w H s1.heap
  at_ : ∀ b, H b ≠ none → b = a
  no : H a ≠ none → K.lookup a = none
theorem beg_of (KX : K.In s1.heap) (ha : s1.heap.get? a = some { cls := .type "list", data := .seq vs.toArray }) (hi : IntsAre vs ns) (hl : ns.length ≤ sizeLine) : ∃ H, Beg P w K mg s1 a ns H := by
  have hv := vals_ints hi
  have hn := hi.length
  cases hk : K.lookup a with
  | some o =>
    obtain rfl := Option.some.inj (ha.symm.trans (KX a o hk))
    have q : SqL K (fun _ => none) a (ns.map V.int) := .inr ⟨_, vs.toArray, _, hk, rfl, rfl, rfl, by rw [List.size_toArray, hn]; exact hl, by simpa using hv⟩
    exact ⟨fun _ => none, fun _ => .inl rfl, q, fun b u z => (by cases (show (none : Option HO) = some u from z)), fun b z => absurd rfl z, fun z => absurd rfl z⟩
  | none =>
    let o : Obj := { cls := .type "list", data := .seq vs.toArray }
    let H : Hp := upd (fun _ => none) a (.frz o (.lst (ns.map V.int)))
    have e1 : H a = some (.frz o (.lst (ns.map V.int))) := upd_same
    have e2 : ∀ b, b ≠ a → H b = none := fun b hb => upd_ne hb
    refine ⟨H, fun b => ?_, .inl (.inr ⟨o, e1⟩), fun b u z => ?_, fun b z => ?_, fun _ => hk⟩
    · by_cases hb : b = a
      · subst hb; exact .inr ⟨o, _, e1⟩
      · exact .inl (e2 b hb)
    · by_cases hb : b = a
      · subst hb
        rw [e1] at z
        cases z
        exact ⟨ha, by rw [List.length_map]; exact hl, vs, _, hv, ha⟩
      · rw [e2 b hb] at z; cases z
    · by_cases hb : b = a
      · exact hb
      · exact absurd (e2 b hb) z
theorem law_callG {CX : CXT} {k : Nat} {fa : Addr} {fd : FuncData} {x : Str} {sp : Sp} (KX : K.In s1.heap) (gm : s1.heap.Ns mainGlobals mg) (gb : s1.heap.Ns builtinsNs mb) (bb : ∀ x : Str, x ≠ "__name__" → mb x = bootBuiltins x) (nl : s1.heap.NoLimit) (sm : ∃ m, s1.heap.Ns sysModules m) (g0 : s1.gens = #[])
    (ha : s1.heap.get? a = some { cls := .type "list", data := .seq vs.toArray }) (hi : IntsAre vs ns) (hl : ns.length ≤ sizeLine) (hr : Room k callerA) (F : ∀ base : Heap, K.In base → base.Ns mainGlobals mg → SmB base → FnG P w K mg base CX k fa fd [x] sp)
    (bnd : ∀ (s : Shared) (u : Value), BindsTo s fd ⟨[u], []⟩ [(x, u)]) (hsp : ∀ H : Hp, Only H → SqL K H a (ns.map V.int) → sp [.ref a] H (fun v _ => v = .bl true) fun _ _ _ => False) (hCX : ∀ H e s2, CX [] H s1 (fun _ _ _ => False) e s2 → False) :
    codeAny (model P w) callerA (.call (.ref fa) ⟨[.ref a], []⟩) (fun r s2 => r = .ok (.ret (.bool true)) ∧ OldK s1.heap s2.heap ∧ s2.os = s1.os ∧ AllBare s2.gens) s1 := by
  obtain ⟨H, bg⟩ := beg_of (P := P) (w := w) (mg := mg) KX ha hi hl
  have free : ∀ {b : Addr} {o : Obj} {es : Array DictEntry} {ep : Nat}, s1.heap.get? b = some o → o.data = .dict es ep → H b = none := fun {b o es ep} e d => by
    cases q : H b with
    | none => rfl
    | some u =>
      obtain rfl := bg.at_ b (fun z => by rw [q] at z; cases z)
      obtain rfl := Option.some.inj (ha.symm.trans e)
      cases (show Data.seq vs.toArray _ = Data.dict es ep from d)
  have ns2 : ∀ {b : Addr} {m : Str → Option Value}, s1.heap.Ns b m → (hidT s1.heap H).Ns b m := fun {b m} ⟨o, es, ep, e, d, r⟩ => ⟨o, es, ep, hidT_get e (free e d), d, r⟩
  have k2 : K.In (hidT s1.heap H) := fun b o e => hidT_get (KX b o e) (by
    cases q : H b with
    | none => rfl
    | some u =>
      obtain rfl := bg.at_ b (fun z => by rw [q] at z; cases z)
      rw [bg.no (fun z => by rw [q] at z; cases z)] at e; cases e)
  have md : Mod K mg (hidT s1.heap H) := ⟨k2, ns2 gm, ⟨mb, ns2 gb, bb⟩, let ⟨mc, h1, h2⟩ := nl; ⟨mc, ns2 h1, h2⟩⟩
  have nof : ∀ b ∈ frs ([] : List Env), H b = none := fun b z => nomatch (show b ∈ ([] : List Addr) from z)
  have e0 : Env0 P w K mg (hidT s1.heap H) callerA [] s1 H := ⟨rfl, md, fun b o e => of_hidT e, Nat.le_of_eq (hidT_size _ _), trivial, nof, bg.ok, .of_eq g0⟩
  refine codeAny_mono ((F _ k2 (ns2 gm) (let ⟨_, h⟩ := sm; let ⟨o, _, _, e, _⟩ := ns2 h; ⟨o, e⟩)).run callerA [] s1 H ⟨[.ref a], []⟩ [.ref a] [.ref a] _ _ rfl hr e0 (bnd s1 (.ref a)) (.cons rfl .nil) (hsp H bg.only bg.sq)) fun r s2 h => ?_
  match r, h with
  | .error e, h => exact (hCX H e s2 h).elim
  | .ok .next, h => exact False.elim h
  | .ok .brk, h => exact False.elim h
  | .ok .cont, h => exact False.elim h
  | .ok (.ret u), h =>
    obtain ⟨v, H2, os, bare, un, ok2, rv, q⟩ := h
    obtain rfl : v = .bl true := q
    obtain rfl : u = Value.bool true := rv
    refine ⟨rfl, OldK.of_keep fun b o e => ?_, os, bare⟩
    rcases bg.only b with z | ⟨ob, xs, z⟩
    · exact un.keep b o e z (fun y => nomatch (show b ∈ ([] : List Addr) from y)) (by simp)
    · obtain ⟨e1, _⟩ := bg.ok b _ z
      obtain ⟨e2, _⟩ := ok2 b _ (un.frzs b ob _ z)
      obtain rfl := Option.some.inj (e.symm.trans e1)
      exact e2
end
end Dn
set_option Elab.async false
set_option linter.all false
set_option maxRecDepth 100000
set_option maxHeartbeats 2000000
namespace Dn
open PySem L2
variable [CTab]
def U.flat : U → Bool
  | .non | .bl _ | .int _ | .str _ => true
  | _ => false
theorem Rp.flat {B B' : Hp} {u : U} {v : V} (r : Rp B u v) (h : u.flat = true) : Rp B' u v := by
  cases r with
  | non => exact .non
  | bl b => exact .bl b
  | int b => exact .int b
  | str b => exact .str b
  | _ => cases h
/-! ### locked for good ahead of an expression -/
def tFrzA (t : TE) : TE := fun σ H Q => ∃ d u, H d = some u ∧ Mut (some u) ∧ ∀ od, t σ (upd H d (.frz od u)) Q
theorem pe_frzA {X : Cx} {e : Expr} {t : TE} (h : PE X e t) : PE X e (tFrzA t) := by
  refine ⟨fun pins s σ H Q I hw => ?_⟩
  obtain ⟨d, u, hd, mu, hw⟩ := hw
  obtain ⟨od, I1⟩ := I.lock hd mu
  exact h.run pins s σ _ _ I1 (hw od)
/-! ### a web being made: an object with two dicts, the second one of lists -/
def plU (org : List (Key × U)) (mad : List (Key × List U)) : U := .obj 0 [("origins", .dic org), ("made", .dic (mad.map fun km => (km.1, .lst km.2)))]
abbrev plF (o m : Addr) : List (Str × V) := [("origins", .ref o), ("made", .ref m)]
abbrev plA (x dx o m : Addr) (ls : List Addr) : List Addr := x :: dx :: o :: m :: ls
structure PlO (B H : Hp) (x dx o m : Addr) (ls : List Addr) (org : List (Key × U)) (mad : List (Key × List U)) : Prop where
  hx : H x = some (.ins (CTab.ct 0) dx (plF o m))
  hd : H dx = some (.own x)
  ho : ∃ eo, H o = some (.dK eo) ∧ Rpk B org eo
  hm : H m = some (.dK ((mad.map (·.1)).zip (ls.map V.ref)))
  len : ls.length = mad.length
  hl : ∀ (j : Nat) l k ns, ls[j]? = some l → mad[j]? = some (k, ns) → ∃ vs, H l = some (.lst vs) ∧ Rps B ns vs
  nd : (plA x dx o m ls).Nodup
  nb : ∀ a ∈ plA x dx o m ls, B a = none
open Classical in
/-- the part that stands for good, with the object laid into it -/
noncomputable def lay (L : List Addr) (H B : Hp) : Hp := fun a => if a ∈ L then H a else B a
theorem lay_in {L : List Addr} {H B : Hp} {a : Addr} (h : a ∈ L) : lay L H B a = H a := by simp [lay, h]
theorem lay_out {L : List Addr} {H B : Hp} {a : Addr} (h : a ∉ L) : lay L H B a = B a := by simp [lay, h]
theorem rpk_lists {B : Hp} : ∀ {mad : List (Key × List U)} {ls : List Addr}, ls.length = mad.length → (∀ (j : Nat) l k ns, ls[j]? = some l → mad[j]? = some (k, ns) → Rp B (.lst ns) (.ref l)) → Rpk B (mad.map fun km => (km.1, .lst km.2)) ((mad.map (·.1)).zip (ls.map V.ref))
  | [], [], _, _ => .nil
  | (k, ns) :: mad, l :: ls, h, f => .cons (f 0 l k ns rfl rfl) (rpk_lists (by simpa using h) fun j l' k' ns' h1 h2 => f (j + 1) l' k' ns' (by simpa using h1) (by simpa using h2))
  | [], _ :: _, h, _ => by simp at h
  | _ :: _, [], h, _ => by simp at h
section
variable {B H : Hp} {x dx o m : Addr} {ls : List Addr} {org : List (Key × U)} {mad : List (Key × List U)}
theorem PlO.ne (P : PlO B H x dx o m ls org mad) : x ≠ dx ∧ x ≠ o ∧ x ≠ m ∧ x ∉ ls ∧ dx ≠ o ∧ dx ≠ m ∧ dx ∉ ls ∧ o ≠ m ∧ o ∉ ls ∧ m ∉ ls := by
  have h := P.nd
  simp only [plA, List.nodup_cons, List.mem_cons, not_or] at h
  obtain ⟨⟨h1, h2, h3, h4⟩, ⟨h5, h6, h7⟩, ⟨h8, h9⟩, h10, _⟩ := h
  exact ⟨h1, h2, h3, h4, h5, h6, h7, h8, h9, h10⟩
theorem PlO.ndl (P : PlO B H x dx o m ls org mad) : ls.Nodup := by
  have h := P.nd
  simp only [plA, List.nodup_cons] at h
  exact h.2.2.2.2
theorem PlO.same (P : PlO B H x dx o m ls org mad) (H' : Hp) : Same B (lay (plA x dx o m ls) H' B) := fun a u e => by
  rw [lay_out (fun z => by rw [P.nb a z] at e; cases e)]; exact e
/-- locked, it is a value -/
theorem PlO.val (P : PlO B H x dx o m ls org mad) (s : Same B H) (ood mod' : Obj) {eo : List (Key × V)} (eho : H o = some (.dK eo)) :
    let H' := upd (upd H o (.frz ood (.dK eo))) m (.frz mod' (.dK ((mad.map (·.1)).zip (ls.map V.ref))))
    let B' := lay (plA x dx o m ls) H' B
    Same B' H' ∧ Rp B' (plU org mad) (.ref x) := by
  intro H' B'
  obtain ⟨n1, n2, n3, n4, n5, n6, n7, n8, n9, n10⟩ := P.ne
  have sB : Same B B' := P.same H'
  have hx' : H' x = some (.ins (CTab.ct 0) dx (plF o m)) := by show upd (upd H o _) m _ x = _; rw [upd_ne n3, upd_ne n2]; exact P.hx
  have hd' : H' dx = some (.own x) := by show upd (upd H o _) m _ dx = _; rw [upd_ne n6, upd_ne n5]; exact P.hd
  have ho' : H' o = some (.frz ood (.dK eo)) := by show upd (upd H o _) m _ o = _; rw [upd_ne n8, upd_same]
  have hm' : H' m = some (.frz mod' (.dK ((mad.map (·.1)).zip (ls.map V.ref)))) := by show upd (upd H o _) m _ m = _; rw [upd_same]
  refine ⟨fun a u e => ?_, ?_⟩
  · by_cases ha : a ∈ plA x dx o m ls
    · rw [show B' a = H' a from lay_in ha] at e; exact e
    · rw [show B' a = B a from lay_out ha] at e
      have h1 : a ≠ o := fun z => ha (by simp [z])
      have h2 : a ≠ m := fun z => ha (by simp [z])
      show upd (upd H o _) m _ a = _
      rw [upd_ne h2, upd_ne h1]; exact s a u e
  · obtain ⟨eo', e1, ro⟩ := P.ho
    rw [eho] at e1; cases e1
    refine .obj (a := x) (dx := dx) (es := plF o m) (by rw [show B' x = H' x from lay_in (by simp)]; exact hx') (by rw [show B' dx = H' dx from lay_in (by simp)]; exact hd') ?_
    refine .cons (.dic (by rw [show B' o = H' o from lay_in (by simp)]; exact ho') (ro.kp (Kp.of sB))) (.cons (.dic (by rw [show B' m = H' m from lay_in (by simp)]; exact hm') ?_) .nil)
    refine rpk_lists P.len fun j l k ns h1 h2 => ?_
    obtain ⟨vs, h3, h4⟩ := P.hl j l k ns h1 h2
    have hl : l ∈ ls := List.mem_of_getElem? h1
    have l1 : l ≠ o := fun z => n9 (z ▸ hl)
    have l2 : l ≠ m := fun z => n10 (z ▸ hl)
    refine .lst ?_ (h4.kp (Kp.of sB))
    rw [show B' l = H' l from lay_in (by simp [hl])]
    show upd (upd H o _) m _ l = _
    rw [upd_ne l2, upd_ne l1]; exact h3
/-- a step that leaves it as it is -/
theorem PlO.go {B2 H2 : Hp} (P : PlO B H x dx o m ls org mad) (g : Go B H B2 H2) : PlO B2 H2 x dx o m ls org mad := by
  obtain ⟨eo, e1, ro⟩ := P.ho
  have ex : ∀ a ∈ plA x dx o m ls, ∃ u, H a = some u := fun a ha => by
    simp only [plA, List.mem_cons] at ha
    rcases ha with rfl | rfl | rfl | rfl | ha
    · exact ⟨_, P.hx⟩
    · exact ⟨_, P.hd⟩
    · exact ⟨_, e1⟩
    · exact ⟨_, P.hm⟩
    · obtain ⟨j, hj, e⟩ := List.getElem_of_mem ha
      have hj2 : j < mad.length := by rw [← P.len]; exact hj
      obtain ⟨vs, h3, _⟩ := P.hl j a mad[j].1 mad[j].2 (by simp [hj, e]) (by simp [hj2])
      exact ⟨_, h3⟩
  refine ⟨g.h _ _ P.hx, g.h _ _ P.hd, ⟨eo, g.h _ _ e1, ro.kp (Kp.of g.b)⟩, g.h _ _ P.hm, P.len, fun j l k ns h1 h2 => ?_, P.nd, fun a ha => ?_⟩
  · obtain ⟨vs, h3, h4⟩ := P.hl j l k ns h1 h2
    exact ⟨vs, g.h _ _ h3, h4.up g⟩
  · obtain ⟨u, e⟩ := ex a ha
    exact g.noB (P.nb a ha) e
/-- a look at it -/
theorem PlO.peek {te : TE} {σ : L2.St} {ob : Option U} {z : U} (P : PlO B H x dx o m ls org mad) (s : Same B H) (h : ∀ B' H', Same B B' → Rp B' (plU org mad) (.ref x) → EvO te σ B' H' ob) (e : ob = some z) (hf : z.flat = true) {Q : VK}
    (q : ∀ v B2 H2, Go B H B2 H2 → Rp B2 z v → Q v H2) : tLockE (tLockE te) σ H Q := by
  obtain ⟨n1, n2, n3, n4, n5, n6, n7, n8, n9, n10⟩ := P.ne
  obtain ⟨eo, eho, ro⟩ := P.ho
  refine ⟨o, _, eho, trivial, fun ood => ⟨m, .dK ((mad.map (·.1)).zip (ls.map V.ref)), (by rw [upd_ne n8.symm]; exact P.hm), trivial, fun mod' => ?_⟩⟩
  obtain ⟨sB, rv⟩ := P.val s ood mod' eho
  refine h _ (upd (upd H o (.frz ood (.dK eo))) m (.frz mod' (.dK ((mad.map (·.1)).zip (ls.map V.ref))))) (P.same _) rv z e _ _ (At.refl sB) _ fun v B2 H2 g2 r2 => ?_
  have inl : ∀ a ∈ plA x dx o m ls, H2 a = upd (upd H o (.frz ood (.dK eo))) m (.frz mod' (.dK ((mad.map (·.1)).zip (ls.map V.ref)))) a := fun a ha => by
    have e1 : ∃ u, upd (upd H o (.frz ood (.dK eo))) m (.frz mod' (.dK ((mad.map (·.1)).zip (ls.map V.ref)))) a = some u := by
      by_cases h1 : a = m
      · subst h1; exact ⟨_, upd_same⟩
      · rw [upd_ne h1]
        by_cases h2 : a = o
        · subst h2; exact ⟨_, upd_same⟩
        · rw [upd_ne h2]
          simp only [plA, List.mem_cons] at ha
          rcases ha with rfl | rfl | rfl | rfl | ha
          · exact ⟨_, P.hx⟩
          · exact ⟨_, P.hd⟩
          · exact absurd rfl h2
          · exact absurd rfl h1
          · obtain ⟨j, hj, e⟩ := List.getElem_of_mem ha
            have hj2 : j < mad.length := by rw [← P.len]; exact hj
            obtain ⟨vs, h3, _⟩ := P.hl j a mad[j].1 mad[j].2 (by simp [hj, e]) (by simp [hj2])
            exact ⟨_, h3⟩
    obtain ⟨u, e1⟩ := e1
    rw [e1]; exact g2.h a u e1
  have em : H2 m = some (.frz mod' (.dK ((mad.map (·.1)).zip (ls.map V.ref)))) := by rw [inl m (by simp), upd_same]
  have eo2 : H2 o = some (.frz ood (.dK eo)) := by rw [inl o (by simp), upd_ne n8, upd_same]
  refine ⟨em, by rw [upd_ne n8]; exact eo2, ?_⟩
  refine q v (fun a => if a ∈ plA x dx o m ls then none else B2 a) _ ⟨fun a u ha => ?_, fun a u ha => ?_, fun a u ha => ?_, fun a u ha => ?_⟩ (r2.flat hf)
  · by_cases h1 : a = o
    · subst h1; rw [upd_same, ← eho]; exact ha
    · rw [upd_ne h1]
      by_cases h2 : a = m
      · subst h2; rw [upd_same, ← P.hm]; exact ha
      · rw [upd_ne h2]
        exact g2.h a u (by rw [upd_ne h2, upd_ne h1]; exact ha)
  · have hn : a ∉ plA x dx o m ls := fun z => by rw [P.nb a z] at ha; cases ha
    show (if a ∈ plA x dx o m ls then none else B2 a) = some u
    rw [if_neg hn]
    exact g2.b a u (by rw [lay_out hn]; exact ha)
  · have hn : a ∉ plA x dx o m ls := fun z => by
      have : (if a ∈ plA x dx o m ls then none else B2 a) = some u := ha
      rw [if_pos z] at this; cases this
    have ha : B2 a = some u := by
      have : (if a ∈ plA x dx o m ls then none else B2 a) = some u := ha
      rwa [if_neg hn] at this
    rw [upd_ne (fun z => hn (by simp [z])), upd_ne (fun z => hn (by simp [z]))]
    exact g2.bh a u ha
  · have hn : a ∉ plA x dx o m ls := fun z => by
      have : (if a ∈ plA x dx o m ls then none else B2 a) = some u := ha
      rw [if_pos z] at this; cases this
    have ha : B2 a = some u := by
      have : (if a ∈ plA x dx o m ls then none else B2 a) = some u := ha
      rwa [if_neg hn] at this
    rcases g2.fr a u ha with z | z
    · rw [lay_out hn] at z; exact .inl z
    · rw [upd_ne (fun z => hn (by simp [z])), upd_ne (fun z => hn (by simp [z]))] at z; exact .inr z
/-- a test that looks at it -/
theorem PlO.peekT {t : TT} {σ : L2.St} {ob : Option Bool} {z : Bool} (P : PlO B H x dx o m ls org mad) (s : Same B H) (h : ∀ B' H', Same B B' → Rp B' (plU org mad) (.ref x) → EvT t σ B' H' ob) (e : ob = some z) {Q : Bool → Hp → Prop}
    (q : ∀ B2 H2, Go B H B2 H2 → Q z H2) : tLockT (tLockT t) σ H Q := by
  obtain ⟨n1, n2, n3, n4, n5, n6, n7, n8, n9, n10⟩ := P.ne
  obtain ⟨eo, eho, ro⟩ := P.ho
  refine ⟨o, _, eho, trivial, fun ood => ⟨m, .dK ((mad.map (·.1)).zip (ls.map V.ref)), (by rw [upd_ne n8.symm]; exact P.hm), trivial, fun mod' => ?_⟩⟩
  obtain ⟨sB, rv⟩ := P.val s ood mod' eho
  refine h _ (upd (upd H o (.frz ood (.dK eo))) m (.frz mod' (.dK ((mad.map (·.1)).zip (ls.map V.ref))))) (P.same _) rv z e _ _ (At.refl sB) _ fun B2 H2 g2 => ?_
  have inl : ∀ a ∈ plA x dx o m ls, H2 a = upd (upd H o (.frz ood (.dK eo))) m (.frz mod' (.dK ((mad.map (·.1)).zip (ls.map V.ref)))) a := fun a ha => by
    have e1 : ∃ u, upd (upd H o (.frz ood (.dK eo))) m (.frz mod' (.dK ((mad.map (·.1)).zip (ls.map V.ref)))) a = some u := by
      by_cases h1 : a = m
      · subst h1; exact ⟨_, upd_same⟩
      · rw [upd_ne h1]
        by_cases h2 : a = o
        · subst h2; exact ⟨_, upd_same⟩
        · rw [upd_ne h2]
          simp only [plA, List.mem_cons] at ha
          rcases ha with rfl | rfl | rfl | rfl | ha
          · exact ⟨_, P.hx⟩
          · exact ⟨_, P.hd⟩
          · exact absurd rfl h2
          · exact absurd rfl h1
          · obtain ⟨j, hj, e⟩ := List.getElem_of_mem ha
            have hj2 : j < mad.length := by rw [← P.len]; exact hj
            obtain ⟨vs, h3, _⟩ := P.hl j a mad[j].1 mad[j].2 (by simp [hj, e]) (by simp [hj2])
            exact ⟨_, h3⟩
    obtain ⟨u, e1⟩ := e1
    rw [e1]; exact g2.h a u e1
  have em : H2 m = some (.frz mod' (.dK ((mad.map (·.1)).zip (ls.map V.ref)))) := by rw [inl m (by simp), upd_same]
  have eo2 : H2 o = some (.frz ood (.dK eo)) := by rw [inl o (by simp), upd_ne n8, upd_same]
  refine ⟨em, by rw [upd_ne n8]; exact eo2, ?_⟩
  refine q (fun a => if a ∈ plA x dx o m ls then none else B2 a) _ ⟨fun a u ha => ?_, fun a u ha => ?_, fun a u ha => ?_, fun a u ha => ?_⟩
  · by_cases h1 : a = o
    · subst h1; rw [upd_same, ← eho]; exact ha
    · rw [upd_ne h1]
      by_cases h2 : a = m
      · subst h2; rw [upd_same, ← P.hm]; exact ha
      · rw [upd_ne h2]
        exact g2.h a u (by rw [upd_ne h2, upd_ne h1]; exact ha)
  · have hn : a ∉ plA x dx o m ls := fun z => by rw [P.nb a z] at ha; cases ha
    show (if a ∈ plA x dx o m ls then none else B2 a) = some u
    rw [if_neg hn]
    exact g2.b a u (by rw [lay_out hn]; exact ha)
  · have hn : a ∉ plA x dx o m ls := fun z => by
      have : (if a ∈ plA x dx o m ls then none else B2 a) = some u := ha
      rw [if_pos z] at this; cases this
    have ha : B2 a = some u := by
      have : (if a ∈ plA x dx o m ls then none else B2 a) = some u := ha
      rwa [if_neg hn] at this
    rw [upd_ne (fun z => hn (by simp [z])), upd_ne (fun z => hn (by simp [z]))]
    exact g2.bh a u ha
  · have hn : a ∉ plA x dx o m ls := fun z => by
      have : (if a ∈ plA x dx o m ls then none else B2 a) = some u := ha
      rw [if_pos z] at this; cases this
    have ha : B2 a = some u := by
      have : (if a ∈ plA x dx o m ls then none else B2 a) = some u := ha
      rwa [if_neg hn] at this
    rcases g2.fr a u ha with z | z
    · rw [lay_out hn] at z; exact .inl z
    · rw [upd_ne (fun z => hn (by simp [z])), upd_ne (fun z => hn (by simp [z]))] at z; exact .inr z
end
end Dn
set_option Elab.async false
set_option linter.all false
set_option maxRecDepth 100000
set_option maxHeartbeats 2000000
namespace Dn
open PySem L2
variable [CTab]
/-! ### tests that look at it -/
def EvTG (tt : TT) (σ : L2.St) (B H : Hp) (o : Option Bool) : Prop :=
  ∀ z, o = some z → ∀ B1 H1, Go B H B1 H1 → ∀ Q : Bool → Hp → Prop, (∀ B2 H2, Go B1 H1 B2 H2 → Q z H2) → tt σ H1 Q
section
variable {σ : L2.St} {B H : Hp} {x dx o m : Addr} {ls : List Addr} {org : List (Key × U)} {mad : List (Key × List U)} {te : TE} {t u : TT} {K : PySem.W.Frag}
theorem etg_peek {ob : Option U} (P : PlO B H x dx o m ls org mad) (h : ∀ B' H', Same B B' → Rp B' (plU org mad) (.ref x) → EvO te σ B' H' ob) : EvTG (tB (tLockE (tLockE te))) σ B H (testO ob) := fun z e B1 H1 g Q q => by
  obtain ⟨y, ey, e⟩ := bind_some e
  cases y <;> cases e
  exact (P.go g).peek g.bh (fun B' H' s r => h B' H' (g.b.trans s) r) ey rfl fun v B2 H2 g2 r2 => by cases r2; exact ⟨_, rfl, q B2 H2 g2⟩
theorem etg_peekT {ob : Option Bool} (P : PlO B H x dx o m ls org mad) (h : ∀ B' H', Same B B' → Rp B' (plU org mad) (.ref x) → EvT t σ B' H' ob) : EvTG (tLockT (tLockT t)) σ B H ob := fun z e B1 H1 g Q q =>
  (P.go g).peekT g.bh (fun B' H' s r => h B' H' (g.b.trans s) r) e fun B2 H2 g2 => q B2 H2 g2
theorem etg_or {a b : Option Bool} (h1 : EvTG t σ B H a) (h2 : EvTG u σ B H b) : EvTG (tOr t u) σ B H (orO a b) := fun z e B1 H1 g Q q => by
  obtain ⟨x, ex, e⟩ := bind_some e
  refine h1 x ex B1 H1 g _ fun B2 H2 g2 => ?_
  cases x with
  | false => exact h2 z e B2 H2 (g.trans g2) Q fun B3 H3 g3 => q B3 H3 (g2.trans g3)
  | true => cases e; exact q B2 H2 g2
theorem etg_not {a : Option Bool} (h1 : EvTG t σ B H a) : EvTG (tNot t) σ B H (notO a) := fun z e B1 H1 g _ q => by
  obtain ⟨x, ex, e⟩ := map_some e
  subst e
  exact h1 x ex B1 H1 g _ fun B2 H2 g2 => q B2 H2 g2
theorem q_ifG {α : Type} {c : Option Bool} {m1 m2 : Option α} {r : α} {tu tw tz : TS} {D : Ends} (s : Same B H) (h : EvTG t σ B H c) (e : ifO c m1 m2 = some r) (h1 : m1 = some r → ∀ B1 H1, Go B H B1 H1 → tu { D with nx := tz D } σ H1) (h2 : m2 = some r → ∀ B1 H1, Go B H B1 H1 → tw { D with nx := tz D } σ H1) :
    tSeq (tIfS t tu tw) tz D σ H := by
  obtain ⟨x, ex, e⟩ := bind_some e
  refine h x ex B H (Go.refl s) _ fun B2 H2 g2 => ?_
  cases x with
  | true => exact h1 e B2 H2 g2
  | false => exact h2 e B2 H2 g2
/-! ### changes -/
theorem PlO.mem (P : PlO B H x dx o m ls org mad) {a : Addr} (ha : a ∈ plA x dx o m ls) : ∃ u, H a = some u := by
  obtain ⟨eo, e1, ro⟩ := P.ho
  simp only [plA, List.mem_cons] at ha
  rcases ha with rfl | rfl | rfl | rfl | ha
  · exact ⟨_, P.hx⟩
  · exact ⟨_, P.hd⟩
  · exact ⟨_, e1⟩
  · exact ⟨_, P.hm⟩
  · obtain ⟨j, hj, e⟩ := List.getElem_of_mem ha
    have hj2 : j < mad.length := by rw [← P.len]; exact hj
    obtain ⟨vs, h3, _⟩ := P.hl j a mad[j].1 mad[j].2 (by simp [hj, e]) (by simp [hj2])
    exact ⟨_, h3⟩
/-- what may change: the object's parts -/
abbrev plM (x dx o m : Addr) (ls : List Addr) : Addr → Prop := fun a => a ∈ plA x dx o m ls
theorem gs_one {M : Addr → Prop} {p : Addr} {u : HO} (s : Same B H) (hb : B p = none) (hM : M p) : Gs M B H B (upd H p u) :=
  ⟨fun a v e hm => by rw [upd_ne (fun z => hm (by rw [z]; exact hM))]; exact e, fun a e => by
      by_cases ha : a = p
      · subst ha; rw [upd_same] at e; cases e
      · rw [upd_ne ha] at e; exact e, Same.refl _, same_upd s hb, fun a v e => .inl e⟩
theorem PlO.setO {k : Key} {t : U} {v : V} {eo : List (Key × V)} (P : PlO B H x dx o m ls org mad) (e : H o = some (.dK eo)) (r : Rp B t v) : PlO B (upd H o (.dK (putK eo k v))) x dx o m ls (putU org k t) mad := by
  obtain ⟨n1, n2, n3, n4, n5, n6, n7, n8, n9, n10⟩ := P.ne
  obtain ⟨eo', e1, ro⟩ := P.ho
  rw [e] at e1; cases e1
  refine ⟨by rw [upd_ne n2]; exact P.hx, by rw [upd_ne n5]; exact P.hd, ⟨_, upd_same, ro.put r k⟩, by rw [upd_ne n8.symm]; exact P.hm, P.len, fun j l k' ns h1 h2 => ?_, P.nd, P.nb⟩
  obtain ⟨vs, h3, h4⟩ := P.hl j l k' ns h1 h2
  exact ⟨vs, by rw [upd_ne (mem_ne (List.mem_of_getElem? h1) n9)]; exact h3, h4⟩
theorem zip_map_append {α β : Type} : ∀ (ks : List α) (ls : List β), ks.length = ls.length → ∀ k l, (ks ++ [k]).zip (ls ++ [l]) = ks.zip ls ++ [(k, l)]
  | [], [], _, _, _ => rfl
  | a :: ks, b :: ls, h, k, l => by
    have := zip_map_append ks ls (by simpa using h) k l
    simp [this]
  | [], _ :: _, h, _, _ => by simp at h
  | _ :: _, [], h, _, _ => by simp at h
theorem any_zip {ks : List Key} {vs : List V} (h : ks.length = vs.length) (k : Key) : ((ks.zip vs).any fun kv => decide (kv.1 = k)) = ks.any fun x => decide (x = k) := by
  induction ks generalizing vs with
  | nil => simp
  | cons a ks ih =>
    cases vs with
    | nil => simp at h
    | cons b vs => simp only [List.zip_cons_cons, List.any_cons]; rw [ih (by simpa using h)]
theorem PlO.setM {k : Key} {p : Addr} (P : PlO B H x dx o m ls org mad) (s : Same B H) (hp : H p = none) (hk : (mad.any fun km => decide (km.1 = k)) = false) :
    PlO B (upd (upd H p (.lst [])) m (.dK (putK ((mad.map (·.1)).zip (ls.map V.ref)) k (.ref p)))) x dx o m (ls ++ [p]) org (mad ++ [(k, [])]) := by
  obtain ⟨n1, n2, n3, n4, n5, n6, n7, n8, n9, n10⟩ := P.ne
  obtain ⟨eo, e1, ro⟩ := P.ho
  have np : ∀ a ∈ plA x dx o m ls, a ≠ p := fun a ha z => by
    obtain ⟨u, e⟩ := P.mem ha
    rw [z, hp] at e; cases e
  have hput : putK ((mad.map (·.1)).zip (ls.map V.ref)) k (V.ref p) = ((mad ++ [(k, ([] : List U))]).map (·.1)).zip ((ls ++ [p]).map V.ref) := by
    unfold putK
    rw [any_zip (by simp [P.len]), List.any_map]
    have : (mad.any ((fun x => decide (x = k)) ∘ fun x => x.1)) = false := hk
    rw [this, if_neg (by decide), List.map_append, List.map_append]
    exact (zip_map_append _ _ (by simp [P.len]) _ _).symm
  rw [hput]
  refine ⟨by rw [upd_ne n3, upd_ne (np x (by simp))]; exact P.hx, by rw [upd_ne n6, upd_ne (np dx (by simp))]; exact P.hd, ⟨eo, by rw [upd_ne n8, upd_ne (np o (by simp))]; exact e1, ro⟩, upd_same, by simp [P.len], fun j l k' ns h1 h2 => ?_, ?_, fun a ha => ?_⟩
  · by_cases hj : j < ls.length
    · rw [List.getElem?_append_left hj] at h1
      rw [List.getElem?_append_left (by rw [← P.len]; exact hj)] at h2
      obtain ⟨vs, h3, h4⟩ := P.hl j l k' ns h1 h2
      have hl : l ∈ ls := List.mem_of_getElem? h1
      exact ⟨vs, by rw [upd_ne (mem_ne hl n10), upd_ne (np l (by simp [hl]))]; exact h3, h4⟩
    · rw [List.getElem?_append_right (by omega)] at h1
      rw [List.getElem?_append_right (by rw [← P.len]; omega)] at h2
      have e : j - ls.length = 0 := by
        have := (List.getElem?_eq_some_iff.mp h1).1
        simp at this; omega
      rw [e] at h1
      rw [← P.len, e] at h2
      cases h1; cases h2
      exact ⟨[], by rw [upd_ne (Ne.symm (np m (by simp))), upd_same], .nil⟩
  · have : plA x dx o m (ls ++ [p]) = plA x dx o m ls ++ [p] := rfl
    rw [this, List.nodup_append]
    exact ⟨P.nd, by simp, fun a ha b hb => by simp at hb; subst hb; exact np a ha⟩
  · have : a ∈ plA x dx o m ls ++ [p] := ha
    rcases List.mem_append.mp this with h | h
    · exact P.nb a h
    · simp at h; subst h; exact s.free hp
/-- the list under a key -/
def appM (mad : List (Key × List U)) (k : Key) (y : U) : List (Key × List U) := match mad with
  | [] => []
  | km :: r => if km.1 = k then (km.1, km.2 ++ [y]) :: r else km :: appM r k y
def getM (mad : List (Key × List U)) (k : Key) : Option (List U) := match mad with
  | [] => none
  | km :: r => if km.1 = k then some km.2 else getM r k
theorem getM_at {k : Key} : ∀ {mad : List (Key × List U)} {ns : List U} {ls : List Addr}, getM mad k = some ns → ls.length = mad.length → ∃ (j : Nat) (l : Addr), ls[j]? = some l ∧ mad[j]? = some (k, ns) ∧ valV ((mad.map (·.1)).zip (ls.map V.ref)) k = some (.ref l) ∧ ∀ y, appM mad k y = mad.set j (k, ns ++ [y])
  | [], ns, ls, h, _ => by cases h
  | (k', ms) :: mad, ns, [], h, hl => by simp at hl
  | (k', ms) :: mad, ns, l :: ls, h, hl => by
    unfold getM at h
    split at h
    · rename_i e
      cases h
      have e : k' = k := e
      subst e
      exact ⟨0, l, rfl, rfl, by simp [valV], fun y => by simp [appM]⟩
    · rename_i e
      have e : ¬ k' = k := e
      obtain ⟨j, l', h1, h2, h3, h4⟩ := getM_at (ls := ls) h (by simpa using hl)
      refine ⟨j + 1, l', by simpa using h1, by simpa using h2, ?_, fun y => by simp [appM, e, h4 y]⟩
      have : valV (((k', ms) :: mad).map (·.1) |>.zip ((l :: ls).map V.ref)) k = valV ((mad.map (·.1)).zip (ls.map V.ref)) k := by simp [valV, e]
      rw [this]; exact h3
theorem PlO.app {j : Nat} {l : Addr} {k : Key} {ns : List U} {y : U} {v : V} {vs : List V} (P : PlO B H x dx o m ls org mad) (h1 : ls[j]? = some l) (h2 : mad[j]? = some (k, ns)) (e : H l = some (.lst vs)) (rv : Rps B ns vs) (r : Rp B y v) :
    PlO B (upd H l (.lst (vs ++ [v]))) x dx o m ls org (mad.set j (k, ns ++ [y])) := by
  obtain ⟨n1, n2, n3, n4, n5, n6, n7, n8, n9, n10⟩ := P.ne
  obtain ⟨eo, e1, ro⟩ := P.ho
  have hl : l ∈ ls := List.mem_of_getElem? h1
  have hj : j < mad.length := (List.getElem?_eq_some_iff.mp h2).1
  have hk : (mad.set j (k, ns ++ [y])).map (·.1) = mad.map (·.1) := by
    rw [List.map_set]
    have : (mad.map (·.1))[j]? = some k := by rw [List.getElem?_map, h2]; rfl
    obtain ⟨hj', ej⟩ := List.getElem?_eq_some_iff.mp this
    show (mad.map (·.1)).set j k = mad.map (·.1)
    rw [← ej, List.set_getElem_self]
  refine ⟨by rw [upd_ne (mem_ne hl n4).symm]; exact P.hx, by rw [upd_ne (mem_ne hl n7).symm]; exact P.hd, ⟨eo, by rw [upd_ne (mem_ne hl n9).symm]; exact e1, ro⟩, by rw [hk, upd_ne (mem_ne hl n10).symm]; exact P.hm, by rw [List.length_set]; exact P.len, fun j' l' k' ns' a1 a2 => ?_, P.nd, P.nb⟩
  by_cases hjj : j' = j
  · subst hjj
    rw [h1] at a1; cases a1
    rw [List.getElem?_set_self hj] at a2; cases a2
    exact ⟨_, upd_same, rv.append (.one r)⟩
  · rw [List.getElem?_set_ne (Ne.symm hjj)] at a2
    obtain ⟨vs', h3, h4⟩ := P.hl j' l' k' ns' a1 a2
    have hne : l' ≠ l := fun z => by
      subst z
      obtain ⟨b1, c1⟩ := List.getElem?_eq_some_iff.mp a1
      obtain ⟨b2, c2⟩ := List.getElem?_eq_some_iff.mp h1
      exact hjj ((List.getElem_inj P.ndl).mp (c1.trans c2.symm))
    exact ⟨vs', by rw [upd_ne hne]; exact h3, h4⟩
/-! ### the statements of put -/
theorem q_putO {tv ty : TE} {tz : TS} {D : Ends} {t : U} {k : Key} (P : PlO B H x dx o m ls org mad) (s : Same B H) (c : Cls K (CTab.ct 0)) (na : NoAttr K (CTab.ct 0) "origins") (hv : σ[0]? = some (some (.ref x))) (h1 : EvO tv σ B H (some t)) (h2 : EvO ty σ B H (some (kU k))) (hl : org.length < lim)
    (kk : ∀ B1 H1, Gs (plM x dx o m ls) B H B1 H1 → PlO B1 H1 x dx o m ls (putU org k t) mad → tz D σ H1) : tSeq (sDPut (tFld K (tVar 0) "origins") ty tv) tz D σ H := by
  refine h1 t rfl B H (At.refl s) _ fun v B1 H1 g1 r1 => ⟨_, hv, x, _, dx, _, .ref o, rfl, (P.go g1).hx, c, na, rfl, h2 _ rfl B1 H1 g1 _ fun kv B2 H2 g2 r2 => ?_⟩
  have P2 := (P.go g1).go g2
  obtain ⟨eo, e1, ro⟩ := P2.ho
  have ek : kv = kV k := r2.key (by cases k <;> rfl)
  refine ⟨o, _, rfl, .inl ⟨eo, k, e1, ek, lim_lt (by rw [ro.length]; exact Nat.le_of_lt hl), rfl⟩, kk B2 _ ?_ (P2.setO e1 (r1.up g2))⟩
  exact (Gs.of (g1.trans g2)).trans (gs_one g2.bh (P2.nb o (by simp)) (by simp [plM]))
theorem q_putM {ty : TE} {tz : TS} {D : Ends} {k : Key} (P : PlO B H x dx o m ls org mad) (s : Same B H) (c : Cls K (CTab.ct 0)) (na : NoAttr K (CTab.ct 0) "made") (hv : σ[0]? = some (some (.ref x))) (h2 : EvO ty σ B H (some (kU k))) (hl : mad.length < lim) (hk : (mad.any fun km => decide (km.1 = k)) = false)
    (kk : ∀ p B1 H1, H p = none → Gs (plM x dx o m ls) B H B1 H1 → PlO B1 H1 x dx o m (ls ++ [p]) org (mad ++ [(k, [])]) → tz D σ H1) : tSeq (sDPut (tFld K (tVar 0) "made") ty (tLst tNil)) tz D σ H := by
  refine ⟨by show (0 : Nat) ≤ sizeLine; decide, fun p hp => ?_⟩
  have g0 : Go B H B (upd H p (.lst [])) := Go.own s hp
  have P0 := P.go g0
  refine ⟨_, hv, x, _, dx, _, .ref m, rfl, P0.hx, c, na, rfl, h2 _ rfl B _ g0 _ fun kv B2 H2 g2 r2 => ?_⟩
  have ek : kv = kV k := r2.key (by cases k <;> rfl)
  have hpm : ∀ a ∈ plA x dx o m ls, a ≠ p := fun a ha z => by
    obtain ⟨u, e⟩ := P.mem ha
    rw [z, hp] at e; cases e
  have P2 := P0.go g2
  have hB2p : B2 p = none := g2.noB (s.free hp) upd_same
  have hH2p : H2 p = some (.lst []) := g2.h _ _ upd_same
  obtain ⟨n1, n2, n3, n4, n5, n6, n7, n8, n9, n10⟩ := P.ne
  refine ⟨m, _, rfl, .inl ⟨_, k, P2.hm, ek, lim_lt ?_, rfl⟩, kk p B2 _ hp ?_ ?_⟩
  · simp only [List.length_zip, List.length_map]
    have := P.len
    omega
  · exact (Gs.of (g0.trans g2)).trans (gs_one g2.bh (P2.nb m (by simp)) (by simp [plM]))
  · -- the heap H2 has p already: lay it as setM does
    have e0 : H2 = upd (fun a => if a = p then none else H2 a) p (.lst []) := by
      funext a
      by_cases ha : a = p
      · subst ha; rw [upd_same, hH2p]
      · rw [upd_ne ha]; simp [ha]
    have P3 : PlO B2 (fun a => if a = p then none else H2 a) x dx o m ls org mad := by
      obtain ⟨eo, e1, ro⟩ := P2.ho
      have f : ∀ a ∈ plA x dx o m ls, (if a = p then none else H2 a) = H2 a := fun a ha => if_neg (hpm a ha)
      refine ⟨by rw [f x (by simp)]; exact P2.hx, by rw [f dx (by simp)]; exact P2.hd, ⟨eo, by rw [f o (by simp)]; exact e1, ro⟩, by rw [f m (by simp)]; exact P2.hm, P2.len, fun j l k' ns a1 a2 => ?_, P2.nd, P2.nb⟩
      obtain ⟨vs, a3, a4⟩ := P2.hl j l k' ns a1 a2
      exact ⟨vs, by rw [f l (by simp [List.mem_of_getElem? a1])]; exact a3, a4⟩
    have s3 : Same B2 (fun a => if a = p then none else H2 a) := fun a u e => by
      show (if a = p then none else H2 a) = some u
      rw [if_neg (fun z => by rw [z, hB2p] at e; cases e)]; exact g2.bh a u e
    have := P3.setM (k := k) s3 (p := p) (by simp) hk
    rw [← e0] at this
    exact this
theorem q_appM {tw te : TE} {tz : TS} {D : Ends} {k : Key} {y : U} {ns : List U} (P : PlO B H x dx o m ls org mad) (s : Same B H) (c : Cls K (CTab.ct 0)) (na : NoAttr K (CTab.ct 0) "made") (hv : σ[0]? = some (some (.ref x))) (h1 : EvO tw σ B H (some (kU k))) (h2 : EvO te σ B H (some y)) (hg : getM mad k = some ns) (hl : ns.length < lim)
    (kk : ∀ B1 H1, Gs (plM x dx o m ls) B H B1 H1 → PlO B1 H1 x dx o m ls org (appM mad k y) → tz D σ H1) : tSeq (tDrop (tBM K "list" rAppend (tOp (rIxA K) (tFld K (tVar 0) "made") tw) (tCons te tNil))) tz D σ H := by
  refine ⟨_, hv, x, _, dx, _, .ref m, rfl, P.hx, c, na, rfl, h1 _ rfl B H (At.refl s) _ fun kv B1 H1 g1 r1 => ?_⟩
  have ek : kv = kV k := r1.key (by cases k <;> rfl)
  subst ek
  obtain ⟨j, l, a1, a2, a3, a4⟩ := getM_at hg P.len
  have P1 := P.go g1
  obtain ⟨vs, a5, a6⟩ := P1.hl j l k ns a1 a2
  refine .inr ⟨m, .ref l, rfl, .inl ⟨_, k, .inl P1.hm, rfl, a3.symm⟩, .inl ⟨rfl, vs, SqL.of a5⟩, h2 y rfl B1 H1 g1 _ fun v B2 H2 g2 r2 => ?_⟩
  have P2 := P1.go g2
  obtain ⟨vs2, b5, b6⟩ := P2.hl j l k ns a1 a2
  refine ⟨l, vs2, v, rfl, rfl, b5, lim_lt (by rw [b6.length]; exact Nat.le_of_lt hl), ?_⟩
  have hm : l ∈ plA x dx o m ls := by simp [List.mem_of_getElem? a1]
  have P3 := P2.app a1 a2 b5 b6 r2
  rw [← a4 y] at P3
  exact kk B2 _ ((Gs.of (g1.trans g2)).trans (gs_one g2.bh (P2.nb l hm) hm)) P3
end
end Dn
set_option Elab.async false
set_option linter.all false
set_option maxRecDepth 100000
set_option maxHeartbeats 2000000
namespace Dn
open PySem L2
variable [CTab]
def addsM (w0 : U) : List (Key × List U) → List U → Option (List (Key × List U))
  | mad, [] => some mad
  | mad, w :: r => w.key.bind fun k => (getM mad k).bind fun ns => if ns.length < lim then addsM w0 (appM mad k w0) r else none
def putP (t1 t2 : Option Bool) (org : List (Key × U)) (mad : List (Key × List U)) (w0 : U) (rest : List U) : Option (Bool × List (Key × U) × List (Key × List U)) :=
  ifO t1 (some (false, org, mad)) (ifO t2 (some (false, org, mad)) (w0.key.bind fun k => if (org.length < lim ∧ mad.length < lim) ∧ (mad.any fun km => decide (km.1 = k)) = false then
    (addsM w0 (mad ++ [(k, [])]) rest).map fun mad' => (true, putU org k (.tup rest), mad') else none))
theorem key_kU {u : U} {k : Key} (h : u.key = some k) : u = kU k := by
  cases u <;> cases h <;> rfl
section
variable {B H : Hp} {x dx o m : Addr} {ls : List Addr} {org org' : List (Key × U)} {mad mad' : List (Key × List U)} {K : PySem.W.Frag} {t1 t2 : Option Bool} {c1 c2 : TT} {tk tt : TE} {wi : TI} {w0 : U} {rest : List U} {b : Bool} {wv : V} {Q : VK} {nx : L2.St → Hp → Prop}
theorem put_reads (c : Cls K (CTab.ct 0)) (no : NoAttr K (CTab.ct 0) "origins") (nm : NoAttr K (CTab.ct 0) "made") (P : PlO B H x dx o m ls org mad) (s : Same B H)
    (h1 : EvTG c1 [some (.ref x), some wv, none] B H t1) (h2 : ∀ B1 H1, Go B H B1 H1 → EvTG c2 [some (.ref x), some wv, none] B1 H1 t2)
    (hk : ∀ ow B' H', Same B B' → EvO tk [some (.ref x), some wv, ow] B' H' (some w0)) (ht : ∀ B' H', Same B B' → EvO tt [some (.ref x), some wv, none] B' H' (some (.tup rest)))
    (hi : ∀ B' H', Same B B' → EvI wi [some (.ref x), some wv, none] B' H' (some rest)) (hm : putP t1 t2 org mad w0 rest = some (b, org', mad'))
    (kQ : ∀ B2 H2 ls2, Gs (plM x dx o m ls) B H B2 H2 → (∀ l ∈ ls2, l ∈ ls ∨ H l = none) → PlO B2 H2 x dx o m ls2 org' mad' → Q (.bl b) H2) :
    tSeq (tIfS c1 (tSeq (tRet (tC (.bl false))) tNext) tNext) (tSeq (tIfS c2 (tSeq (tRet (tC (.bl false))) tNext) tNext) (tSeq (sDPut (tFld K (tVar 0) "origins") tk tt) (tSeq (sDPut (tFld K (tVar 0) "made") tk (tLst tNil))
      (tSeq (tFor wi (gName 2) (tSeq (tDrop (tBM K "list" rAppend (tOp (rIxA K) (tFld K (tVar 0) "made") (tVar 2)) (tCons tk tNil))) tNext)) (tSeq (tRet (tC (.bl true))) tNext))))) { nx := nx, rt := Q } [some (.ref x), some wv, none] H := by
  refine q_ifG s h1 hm (fun e B1 H1 g1 => ?_) fun e B1 H1 g1 => ?_
  · cases e
    exact kQ B1 H1 ls (.of g1) (fun l hl => .inl hl) (P.go g1)
  · refine q_ifG g1.bh (h2 B1 H1 g1) e (fun e B2 H2 g2 => ?_) fun e B2 H2 g2 => ?_
    · cases e
      exact kQ B2 H2 ls (.of (g1.trans g2)) (fun l hl => .inl hl) ((P.go g1).go g2)
    · obtain ⟨k, ek, e⟩ := bind_some e
      split at e
      · rename_i hl
        obtain ⟨⟨l1, l2⟩, l3⟩ := hl
        obtain ⟨madF, em, e⟩ := map_some e
        cases e
        have e0 := key_kU ek
        subst e0
        have g12 := g1.trans g2
        have P2 := P.go g12
        refine q_putO P2 g2.bh c no rfl (ht B2 H2 g12.b) (hk none B2 H2 g12.b) l1 fun B3 H3 g3 P3 => ?_
        refine q_putM P3 g3.bh c nm rfl (hk none B3 H3 (g12.b.trans g3.b)) l2 l3 fun p B4 H4 hp g4 P4 => ?_
        have sB4 : Same B B4 := (g12.b.trans g3.b).trans g4.b
        have g04 : Gs (plM x dx o m ls) B H B4 H4 := ((Gs.of g12).trans g3).trans g4
        have hp0 : H p = none := (Gs.n (M := plM x dx o m ls) ((Gs.of g12).trans g3) p hp)
        have hls : ∀ l ∈ ls ++ [p], l ∈ ls ∨ H l = none := fun l hl => by
          rcases List.mem_append.mp hl with h | h
          · exact .inl h
          · simp at h; subst h; exact .inr hp0
        refine q_for g4.bh (hi B4 H4 sB4) rfl fun B5 H5 g5 => ?_
        refine ⟨fun l σ' B' H' => ∃ (ow : Option V) (md : List (Key × List U)), σ' = [some (.ref x), some wv, ow] ∧ Gs (plM x dx o m ls) B H B' H' ∧ Same B5 B' ∧ PlO B' H' x dx o m (ls ++ [p]) (putU org k (.tup rest)) md ∧ addsM (kU k) md l = some mad', ?_, ?_, ?_, ?_⟩
        · exact ⟨none, _, rfl, g04.trans (.of g5), Same.refl _, P4.go g5, em⟩
        · rintro l σ' B' H' ⟨ow, md, _, g', sb, _⟩
          exact ⟨sb, g'.bh⟩
        · rintro u l v σ' B' H' B'' H'' ⟨ow, md, rfl, g', sb, P', ha⟩ gq rq
          obtain ⟨ku, eku, ha2⟩ := bind_some ha
          obtain ⟨ns, ens, ha3⟩ := bind_some ha2
          clear ha ha2
          split at ha3
          · rename_i hns
            have eu := key_kU eku
            subst eu
            have sB'' : Same B B'' := ((g5.b.trans sb).trans gq.b) |> (sB4.trans ·)
            show tSeq _ tNext _ ([some (V.ref x), some wv, ow].set 2 (some v)) H''
            refine q_appM (P'.go gq) gq.bh c nm rfl (eo_var rfl rq) (hk (some v) B'' H'' sB'') ens hns fun B6 H6 g6 P6 => ?_
            refine ⟨B6, some v, _, rfl, ?_, (sb.trans gq.b).trans g6.b, P6, ha3⟩
            refine (g'.trans (.of gq)).base g6 fun a hA => ?_
            have hA : a ∈ plA x dx o m ls ++ [p] := hA
            rcases List.mem_append.mp hA with h | h
            · exact .inl h
            · simp at h; subst h; exact .inr hp0
          · cases ha3
        · rintro σ' B' H' ⟨ow, md, rfl, g', sb, P', ha⟩
          cases ha
          exact kQ B' H' _ g' hls P'
      · cases e
end
/-- the promise of put -/
def spPut (mp : List (Key × U) → List (Key × List U) → U → Option (Bool × List (Key × U) × List (Key × List U))) : Sp := fun vs H Q _ => ∃ B x dx o m ls org mad wv words b org' mad', Same B H ∧ vs = [.ref x, wv] ∧ PlO B H x dx o m ls org mad ∧ Rp B words wv ∧
  mp org mad words = some (b, org', mad') ∧ ∀ B2 H2 ls2, Gs (plM x dx o m ls) B H B2 H2 → (∀ l ∈ ls2, l ∈ ls ∨ H l = none) → PlO B2 H2 x dx o m ls2 org' mad' → Q (.bl b) H2
/-- .. of __init__ -/
def spInit : Sp := fun vs H Q _ => ∃ B x dx, Same B H ∧ vs = [.ref x] ∧ H x = some (.ins (CTab.ct 0) dx []) ∧ H dx = some (.own x) ∧ x ≠ dx ∧ B x = none ∧ B dx = none ∧
  ∀ B2 H2 o m, Gs (fun a => a = x) B H B2 H2 → H o = none → H m = none → PlO B2 H2 x dx o m [] [] [] → Q .non H2
theorem init_reads {B H : Hp} {x dx : Addr} {K : PySem.W.Frag} {Q : VK} (c : Cls K (CTab.ct 0)) (no : NoAttr K (CTab.ct 0) "origins") (nm : NoAttr K (CTab.ct 0) "made") (s : Same B H) (hx : H x = some (.ins (CTab.ct 0) dx [])) (hd : H dx = some (.own x)) (hne : x ≠ dx) (bx : B x = none) (bd : B dx = none)
    (k : ∀ B2 H2 o m, Gs (fun a => a = x) B H B2 H2 → H o = none → H m = none → PlO B2 H2 x dx o m [] [] [] → Q .non H2) :
    tSeq (sFld K (tVar 0) tDNewK "origins") (tSeq (sFld K (tVar 0) tDNewK "made") tNext) { nx := fun _ H' => Q .non H', rt := Q } [some (.ref x)] H := by
  intro o ho
  have nxo : x ≠ o := ne_of_none hx ho
  have ndo : dx ≠ o := ne_of_none hd ho
  refine ⟨_, rfl, x, _, dx, [], rfl, by rw [upd_ne nxo]; exact hx, c, no, by decide, ?_⟩
  intro m hm
  have nmo : m ≠ o := fun z => by
    rw [z, upd_ne nxo.symm, upd_same] at hm; cases hm
  have nxm : x ≠ m := fun z => by
    rw [← z, upd_same] at hm; cases hm
  have hm0 : H m = none := by
    rwa [upd_ne nxm.symm, upd_ne nmo] at hm
  have ndm : dx ≠ m := ne_of_none hd hm0
  refine ⟨_, rfl, x, _, dx, putF "origins" (.ref o) [], rfl, by rw [upd_ne nxm, upd_same], c, nm, (by show 1 < 1000; decide), ?_⟩
  have ef : putF "made" (.ref m) (putF "origins" (.ref o) []) = plF o m := by
    have hs : ¬ (("origins" : Str) = "made") := by decide +kernel
    show (if ("origins" : Str) = "made" then _ else _) = _
    rw [if_neg hs]
    rfl
  rw [ef]
  refine k B _ o m ⟨fun a u e hn => ?_, fun a e => ?_, Same.refl _, fun a u e => ?_, fun a u e => .inl e⟩ ho hm0 ⟨upd_same, ?_, ⟨[], ?_, .nil⟩, ?_, rfl, fun j l k ns h1 => by simp at h1, ?_, fun a ha => ?_⟩
  · have hn : a ≠ x := hn
    rw [upd_ne hn, upd_ne (ne_of_none e hm0), upd_ne hn, upd_ne (ne_of_none e ho)]; exact e
  · by_cases h1 : a = x
    · subst h1; rw [upd_same] at e; cases e
    · rw [upd_ne h1] at e
      by_cases h2 : a = m
      · subst h2; rw [upd_same] at e; cases e
      · rw [upd_ne h2, upd_ne h1] at e
        by_cases h3 : a = o
        · subst h3; rw [upd_same] at e; cases e
        · rw [upd_ne h3] at e; exact e
  · have h1 : a ≠ x := ne_of_none e bx
    rw [upd_ne h1, upd_ne (ne_of_none (s a u e) hm0), upd_ne h1, upd_ne (ne_of_none (s a u e) ho)]; exact s a u e
  · rw [upd_ne hne.symm, upd_ne ndm, upd_ne hne.symm, upd_ne ndo]; exact hd
  · rw [upd_ne nxo.symm, upd_ne nmo.symm, upd_ne nxo.symm, upd_same]
  · rw [upd_ne nxm.symm, upd_same]; rfl
  · simp [plA, hne, nxo, nxm, ndo, ndm, nmo.symm]
  · simp only [plA, List.mem_cons, List.not_mem_nil, or_false] at ha
    rcases ha with rfl | rfl | rfl | rfl
    · exact bx
    · exact bd
    · exact s.free ho
    · exact s.free hm0
/-! slices of what is there -/
theorem get0 {w0 : U} {rest : List U} : getV (.lst (w0 :: rest)) (.int 0) = some w0 := by
  show atI (w0 :: rest) 0 = some w0
  unfold atI ixN
  rw [if_pos (by decide), if_pos (by simp)]
  rfl
theorem cut1 {w0 : U} {rest : List U} : sliceV (.lst (w0 :: rest)) (some 1) none = some (.lst rest) := by
  show some (U.lst (cutU (w0 :: rest) (some 1) none)) = _
  have e1 : HT.sIx (w0 :: rest).length 0 (some 1) = 1 := by
    unfold HT.sIx
    simp
  have e2 : HT.sIx (w0 :: rest).length (w0 :: rest).length none = (w0 :: rest).length := rfl
  unfold cutU
  rw [e1, e2]
  simp
end Dn
set_option Elab.async false
set_option linter.all false
set_option maxRecDepth 100000
set_option maxHeartbeats 2000000
namespace Dn
open PySem L2
variable [CTab]
def plL (mp : List (Key × U) → List (Key × List U) → U → Option (Bool × List (Key × U) × List (Key × List U))) : List U → List (Key × U) → List (Key × List U) → Option U
  | [], org, mad => some (plU org mad)
  | part :: r, org, mad => (splitV part (.str " ")).bind fun ws => (mp org mad ws).bind fun t => if t.1 = true then plL mp r t.2.1 t.2.2 else some .non
theorem pl_no_put {o m : Addr} : (plF o m).lookup ("put" : Str) = none := by
  have h1 : (("put" : Str) == "origins") = false := by decide +kernel
  have h2 : (("put" : Str) == "made") = false := by decide +kernel
  simp only [plF, List.lookup_cons, h1, h2, List.lookup_nil]
section
variable {B H : Hp} {K : PySem.W.Frag} {c0 : TT} {tsp : TE} {wi : TI} {v : V} {Q : VK} {nx : L2.St → Hp → Prop} {mp : List (Key × U) → List (Key × List U) → U → Option (Bool × List (Key × U) × List (Key × List U))} {E1 E2 : XK} {parts : List U} {r : U} {nb : Bool}
theorem plainOf_reads (s : Same B H) (h0 : EvT c0 [some v, none, none] B H (some nb)) (h1 : nb = true → some r = some U.non)
    (hi : nb = false → ∀ f B' H', Same B B' → EvI wi [some v, some f, none] B' H' (some parts)) (hsp : ∀ f part pv B' H', Rp B' part pv → EvO tsp [some v, some f, some pv] B' H' (op2 splitV (some part) (some (.str " "))))
    (hm : nb = false → plL mp parts [] [] = some r) (kQ : ∀ w B2 H2, Go B H B2 H2 → Rp B2 r w → Q w H2) :
    tSeq (tIfS c0 (tSeq (tRet (tC .non)) tNext) tNext) (tSeq (tAsg (tMake (CTab.ct 0) spInit [] E1 tNil) (gName 1)) (tSeq (tFor wi (gName 2) (tSeq (tIfS (tNot (tB (tMeth (CTab.ct 0) "put" (spPut mp) [] E2 (tVar 1) (tCons tsp tNil)))) (tSeq (tRet (tC .non)) tNext) tNext) tNext))
      (tSeq (tRet (tFrzA (tFrzA (tVar 1)))) tNext))) { nx := nx, rt := Q } [some v, none, none] H := by
  refine h0 nb rfl B H (At.refl s) _ fun B1 H1 g1 => ?_
  cases nb with
  | true => cases h1 rfl; exact kQ .non B1 H1 g1 .non
  | false =>
    intro x dx hx hdx hne
    have hx0 : H x = none := g1.h.free hx
    have hd0 : H dx = none := g1.h.free hdx
    have bx : B1 x = none := g1.bh.free hx
    have bd : B1 dx = none := g1.bh.free hdx
    have gm : Go B1 H1 B1 (upd (upd H1 dx (.own x)) x (.ins (CTab.ct 0) dx [])) := by
      refine ⟨fun a u e => ?_, Same.refl _, fun a u e => ?_, fun a u e => .inl e⟩
      · rw [upd_ne (ne_of_none e hx), upd_ne (ne_of_none e hdx)]; exact e
      · rw [upd_ne (ne_of_none e bx), upd_ne (ne_of_none e bd)]; exact g1.bh a u e
    refine ⟨B1, x, dx, gm.bh, rfl, upd_same, by rw [upd_ne hne, upd_same], hne.symm, bx, bd, fun B2 H2 o m g2 ho hmm P2 => ⟨rfl, ?_⟩⟩
    have g02 : Gs (fun _ => False) B H B2 H2 := (Gs.of (g1.trans gm)).base g2 fun a ha => by
      have ha : a = x := ha
      subst ha; exact .inr hx0
    have ho0 : H o = none := (g1.trans gm).h.free ho
    have hm0 : H m = none := (g1.trans gm).h.free hmm
    have hB2 : Same B B2 := g02.b
    show tSeq _ _ _ [some v, some (V.ref x), none] H2
    refine q_for g02.bh (hi rfl _ B2 H2 hB2) rfl fun B3 H3 g3 => ?_
    refine ⟨fun l σ' B' H' => ∃ (ow : Option V) (ls : List Addr) (org : List (Key × U)) (mad : List (Key × List U)), σ' = [some v, some (V.ref x), ow] ∧ Gs (fun _ => False) B H B' H' ∧ Same B3 B' ∧ (∀ l ∈ ls, H l = none) ∧ PlO B' H' x dx o m ls org mad ∧ plL mp l org mad = some r, ?_, ?_, ?_, ?_⟩
    · exact ⟨none, [], [], [], rfl, g02.trans (.of g3), Same.refl _, (fun l hl => by cases hl), P2.go g3, hm rfl⟩
    · rintro l σ' B' H' ⟨ow, ls, org, mad, _, g', sb, _⟩
      exact ⟨sb, g'.bh⟩
    · rintro u l pv σ' B' H' B'' H'' ⟨ow, ls, org, mad, rfl, g', sb, hls, P', ha⟩ gq rq
      obtain ⟨ws, ews, ha⟩ := bind_some ha
      obtain ⟨⟨b, org', mad'⟩, et, ha⟩ := bind_some ha
      have Pq := P'.go gq
      have gq' := g'.trans (.of gq)
      show tSeq _ tNext _ [some v, some (V.ref x), some pv] H''
      refine ⟨_, rfl, x, dx, _, rfl, Pq.hx, pl_no_put, hsp (.ref x) u pv B'' H'' rq ws (by simp [op2, ews]) B'' H'' (At.refl gq.bh) _ fun wv B4 H4 g4 r4 => ?_⟩
      have P4 := Pq.go g4
      refine ⟨B4, x, dx, o, m, ls, org, mad, wv, ws, b, org', mad', g4.bh, rfl, P4, r4, et, fun B5 H5 ls2 g5 hl2 P5 => ⟨b, rfl, ?_⟩⟩
      have g04 : Gs (fun _ => False) B H B4 H4 := gq'.trans (.of g4)
      have hA : ∀ a ∈ plA x dx o m ls, H a = none := fun a ha => by
        simp only [plA, List.mem_cons] at ha
        rcases ha with rfl | rfl | rfl | rfl | ha
        · exact hx0
        · exact hd0
        · exact ho0
        · exact hm0
        · exact hls a ha
      have g05 : Gs (fun _ => False) B H B5 H5 := g04.base g5 fun a ha => .inr (hA a ha)
      cases b with
      | false =>
        have ha : some U.non = some r := ha
        cases ha
        exact kQ .non B5 H5 g05.go .non
      | true =>
        have ha : plL mp l org' mad' = some r := ha
        refine ⟨B5, some pv, ls2, org', mad', rfl, g05, ((sb.trans gq.b).trans g4.b).trans g5.b, fun l' hl' => ?_, P5, ha⟩
        rcases hl2 l' hl' with h | h
        · exact hls l' h
        · exact g04.n l' h
    · rintro σ' B' H' ⟨ow, ls, org, mad, rfl, g', sb, hls, P', ha⟩
      cases ha
      obtain ⟨n1, n2, n3, n4, n5, n6, n7, n8, n9, n10⟩ := P'.ne
      obtain ⟨eo, eho, ro⟩ := P'.ho
      refine ⟨o, _, eho, trivial, fun ood => ⟨m, .dK ((mad.map (·.1)).zip (ls.map V.ref)), (by rw [upd_ne n8.symm]; exact P'.hm), trivial, fun mod' => ⟨_, rfl, ?_⟩⟩⟩
      obtain ⟨sB, rv⟩ := P'.val g'.bh ood mod' eho
      have hA : ∀ a ∈ plA x dx o m ls, H a = none := fun a ha => by
        simp only [plA, List.mem_cons] at ha
        rcases ha with rfl | rfl | rfl | rfl | ha
        · exact hx0
        · exact hd0
        · exact ho0
        · exact hm0
        · exact hls a ha
      refine kQ _ (lay (plA x dx o m ls) (upd (upd H' o (.frz ood (.dK eo))) m (.frz mod' (.dK ((mad.map (·.1)).zip (ls.map V.ref))))) B') _ ⟨fun a u e => ?_, g'.b.trans (P'.same _), sB, fun a u e => ?_⟩ rv
      · rw [upd_ne (ne_of_none e hm0), upd_ne (ne_of_none e ho0)]; exact g'.go.h a u e
      · by_cases hin : a ∈ plA x dx o m ls
        · exact .inr (hA a hin)
        · rw [lay_out hin] at e
          exact g'.go.fr a u e
end
end Dn
set_option Elab.async false
set_option linter.all false
set_option maxRecDepth 100000
set_option maxHeartbeats 2000000
namespace Dn
open PySem PySem.Spec PyProof.Rows L2
variable [CTab]
/-! ### zip whose pair is held: over iterators of any kind -/
section
variable {prog : Program} {w : World} {A : Around} {E : Value → Shared → Prop} {s : Shared} {z TI TO T i1 i2 : Addr} {fp1 fp2 : List Addr} {n1 n2 i : Nat} {P1 P2 : Nat → Value → Prop} {St1 St2 : Nat → Heap → Prop} {f : Bool} {oT : Obj}
theorem zipH_item {Q : Value → Shared → Prop} (S : ZipSep2 z TI TO i1 i2 fp1 fp2) (D1 : Draws prog w A i1 fp1 n1 P1 St1) (D2 : Draws prog w A i2 fp2 n2 P2 St2)
    (hz : IsZipHeld s.heap z TI TO T f) (hT : s.heap.get? T = some oT) (hTI : IsTupOf2 s.heap TI (.ref i1) (.ref i2)) (st1 : St1 i s.heap) (st2 : St2 i s.heap) (hlt1 : i < n1) (hlt2 : i < n2)
    (hQ : ∀ x1 x2 h' tk, P1 i x1 → P2 i x2 → IsZipHeld h' z TI TO T true → St1 (i + 1) h' → St2 (i + 1) h' → IsTupOf2 h' s.heap.objs.size x1 x2 → h'.objs.size = s.heap.objs.size + 1 →
      (∀ c o, c ≠ z → c ≠ i1 → c ≠ i2 → s.heap.get? c = some o → h'.get? c = some o) → Q (.ref s.heap.objs.size) { s with heap := h', toks := tk }) :
    wpAny (model prog w) A (Builtin.«zip.__next__» ⟨[.ref z], []⟩) (fun fin s' => ∃ v, fin = .done (.ret v) ∧ Q v s') E s := by
  obtain ⟨hp, g, d, tk0, os⟩ := s
  show wpAny _ _ (field (.ref z) 2 >>= _) _ _ _
  refine wpAny_bind (wpAny_field hz rfl (x := .bool false) rfl ?_)
  show wpAny _ _ (field (.ref z) 3 >>= _) _ _ _
  refine wpAny_bind (wpAny_field hz rfl (x := .ref TI) rfl ?_)
  refine wpAny_bind (wpAny_seqItems hTI rfl ?_)
  show wpAny _ _ (Builtin.SmallTypes.ownedTupleIsFree (.ref z) >>= _) _ _ _
  refine wpAny_bind (wpAny_tupleHeld_zip hz hT fun g0 hz0 hs0 => ?_)
  replace hs0 : Heap.SameBut z hp g0 := hs0
  simp only [Bool.false_eq_true, if_false]
  refine wpAny_bind ?_
  rw [← Array.forIn_toList]
  simp only [List.forIn_cons, List.forIn_nil]
  refine wpAny_bind (wpAny_bind (wpAny_holding ?_))
  show wpAny _ _ (Builtin.SmallTypes.nextOf (.ref i1) >>= _) _ _ ⟨g0, g, d, tk0, os⟩
  refine wpAny_bind (D1.item i _ _ _ hlt1 (D1.over st1 hs0 S.zf1) fun x1 p1 tk1 hx1 sn1 hp1 => wpAny_pure ?_)
  replace hp1 : Heap.SameBut i1 g0 p1 := hp1
  refine wpAny_pure ?_
  refine wpAny_bind (wpAny_bind (wpAny_holding ?_))
  show wpAny _ _ (Builtin.SmallTypes.nextOf (.ref i2) >>= _) _ _ ⟨p1, g, d, tk1, os⟩
  refine wpAny_bind (D2.item i _ _ _ hlt2 (D2.over (D2.over st2 hs0 S.zf2) hp1 S.sep1_2) fun x2 p2 tk2 hx2 sn2 hp2 => wpAny_pure ?_)
  replace hp2 : Heap.SameBut i2 p1 p2 := hp2
  refine wpAny_pure (wpAny_pure ?_)
  show wpAny _ _ (newTuple [x1, x2] >>= _) _ _ _
  refine wpAny_bind (wpAny_newTuple ?_)
  have hsz : p2.objs.size = hp.objs.size := by rw [hp2.1, hp1.1, hs0.1]
  have hzz : IsZipHeld p2 z TI TO T true := hp2.extBut _ _ S.zi2 (hp1.extBut _ _ S.zi1 hz0)
  have hkk : ∀ c o, c ≠ z → c ≠ i1 → c ≠ i2 → hp.get? c = some o → p2.get? c = some o := fun c o cz c1 c2 e => hp2.extBut _ _ c2 (hp1.extBut _ _ c1 (hs0.extBut _ _ cz e))
  have hj1 : St1 (i + 1) p2 := D1.over sn1 hp2 S.sep2_1
  refine wpAny_pure ⟨_, rfl, ?_⟩
  show Q (.ref p2.objs.size) ⟨p2.push { cls := .type "tuple", data := .seq #[x1, x2] }, g, d, tk2, os⟩
  have hpp : IsTupOf2 (p2.push { cls := .type "tuple", data := .seq #[x1, x2] }) p2.objs.size x1 x2 := Heap.get?_push_size _ rfl
  have hz4 : (p2.push { cls := .type "tuple", data := .seq #[x1, x2] }).objs.size = p2.objs.size + 1 := Heap.size_push ..
  rw [hsz] at hpp hz4 ⊢
  exact hQ x1 x2 _ tk2 hx1 hx2 (Heap.get?_push_of_some _ hzz) (D1.frame _ _ _ hj1 fun b _ o e => Heap.get?_push_of_some _ e) (D2.frame _ _ _ sn2 fun b _ o e => Heap.get?_push_of_some _ e) hpp hz4 fun c o c1 c2 c3 e => Heap.get?_push_of_some _ (hkk c o c1 c2 c3 e)
theorem zipH_end {Q : Fin → Shared → Prop} (S : ZipSep2 z TI TO i1 i2 fp1 fp2) (D1 : Draws prog w A i1 fp1 n1 P1 St1) (D2 : Draws prog w A i2 fp2 n2 P2 St2)
    (hz : IsZipHeld s.heap z TI TO T f) (hT : s.heap.get? T = some oT) (hTI : IsTupOf2 s.heap TI (.ref i1) (.ref i2)) (st1 : St1 i s.heap) (st2 : St2 i s.heap) (hle1 : i ≤ n1) (hle2 : i ≤ n2) (hend : i = n1 ∨ i = n2)
    (hE : ∀ h' tk e, (∀ c o, c ≠ z → c ≠ i1 → c ≠ i2 → s.heap.get? c = some o → h'.get? c = some o) → (∃ o, h'.get? e = some o ∧ o.cls = .type "StopIteration") → E (.ref e) { s with heap := h', toks := tk }) :
    wpAny (model prog w) A (Builtin.«zip.__next__» ⟨[.ref z], []⟩) Q E s := by
  obtain ⟨hp, g, d, tk0, os⟩ := s
  show wpAny _ _ (field (.ref z) 2 >>= _) _ _ _
  refine wpAny_bind (wpAny_field hz rfl (x := .bool false) rfl ?_)
  show wpAny _ _ (field (.ref z) 3 >>= _) _ _ _
  refine wpAny_bind (wpAny_field hz rfl (x := .ref TI) rfl ?_)
  refine wpAny_bind (wpAny_seqItems hTI rfl ?_)
  show wpAny _ _ (Builtin.SmallTypes.ownedTupleIsFree (.ref z) >>= _) _ _ _
  refine wpAny_bind (wpAny_tupleHeld_zip hz hT fun g0 hz0 hs0 => ?_)
  replace hs0 : Heap.SameBut z hp g0 := hs0
  simp only [Bool.false_eq_true, if_false]
  refine wpAny_bind ?_
  rw [← Array.forIn_toList]
  simp only [List.forIn_cons, List.forIn_nil]
  refine wpAny_bind (wpAny_bind (wpAny_holding ?_))
  show wpAny _ _ (Builtin.SmallTypes.nextOf (.ref i1) >>= _) _ _ ⟨g0, g, d, tk0, os⟩
  by_cases hlt1 : i < n1
  · refine wpAny_bind (D1.item i _ _ _ hlt1 (D1.over st1 hs0 S.zf1) fun x1 p1 tk1 hx1 sn1 hp1 => wpAny_pure ?_)
    replace hp1 : Heap.SameBut i1 g0 p1 := hp1
    refine wpAny_pure ?_
    refine wpAny_bind (wpAny_bind (wpAny_holding ?_))
    show wpAny _ _ (Builtin.SmallTypes.nextOf (.ref i2) >>= _) _ _ ⟨p1, g, d, tk1, os⟩
    have hi2 : i = n2 := by omega
    refine wpAny_bind (D2.done ⟨p1, g, d, tk1, os⟩ _ _ (by rw [← hi2]; exact (D2.over (D2.over st2 hs0 S.zf2) hp1 S.sep1_2)) fun q e hq he => ?_)
    replace hq : Heap.ExtBut i2 p1 q := hq
    exact hE q tk1 e (fun c o cz c1 c2 x => hq _ _ c2 (hp1.extBut _ _ c1 (hs0.extBut _ _ cz x))) he
  · have hi1 : i = n1 := by omega
    refine wpAny_bind (D1.done ⟨g0, g, d, tk0, os⟩ _ _ (by rw [← hi1]; exact (D1.over st1 hs0 S.zf1)) fun q e hq he => ?_)
    replace hq : Heap.ExtBut i1 g0 q := hq
    exact hE q tk0 e (fun c o cz c1 c2 x => hq _ _ c1 (hs0.extBut _ _ cz x)) he
theorem nextH_item {Q : Option Value → Shared → Prop} (S : ZipSep2 z TI TO i1 i2 fp1 fp2) (D1 : Draws prog w A.in1 i1 fp1 n1 P1 St1) (D2 : Draws prog w A.in1 i2 fp2 n2 P2 St2)
    (hz : IsZipHeld s.heap z TI TO T f) (hT : s.heap.get? T = some oT) (hTI : IsTupOf2 s.heap TI (.ref i1) (.ref i2)) (st1 : St1 i s.heap) (st2 : St2 i s.heap) (hlt1 : i < n1) (hlt2 : i < n2)
    (hQ : ∀ x1 x2 h' tk, P1 i x1 → P2 i x2 → IsZipHeld h' z TI TO T true → St1 (i + 1) h' → St2 (i + 1) h' → IsTupOf2 h' s.heap.objs.size x1 x2 → h'.objs.size = s.heap.objs.size + 1 →
      (∀ c o, c ≠ z → c ≠ i1 → c ≠ i2 → s.heap.get? c = some o → h'.get? c = some o) → Q (some (.ref s.heap.objs.size)) { s with heap := h', toks := tk }) :
    wpAny (model prog w) A (pyNext (.ref z)) Q E s := by
  have hTy : s.TypeIs (.ref z) "zip" := ⟨_, hz, rfl⟩
  unfold pyNext
  exact wpAny_bind (wpAny_attempt (wpAny_callSpecial?_slot (name := Str.ofString "__next__") hTy F.slot_zip_next
    (wpAny_call_entry F.slot_zip_next hTy F.entry_zip_next
      (zipH_item S D1 D2 hz hT hTI st1 st2 hlt1 hlt2 fun x1 x2 h' tk a1 a2 a3 a4 a5 a6 a7 a8 => wpAny_pure (hQ x1 x2 h' tk a1 a2 a3 a4 a5 a6 a7 a8)) (F.args_zip_next_1 _))))
theorem nextH_end {Q : Option Value → Shared → Prop} (S : ZipSep2 z TI TO i1 i2 fp1 fp2) (D1 : Draws prog w A.in1 i1 fp1 n1 P1 St1) (D2 : Draws prog w A.in1 i2 fp2 n2 P2 St2)
    (hz : IsZipHeld s.heap z TI TO T f) (hT : s.heap.get? T = some oT) (hTI : IsTupOf2 s.heap TI (.ref i1) (.ref i2)) (st1 : St1 i s.heap) (st2 : St2 i s.heap) (hle1 : i ≤ n1) (hle2 : i ≤ n2) (hend : i = n1 ∨ i = n2)
    (hQ : ∀ h' tk, (∀ c o, c ≠ z → c ≠ i1 → c ≠ i2 → s.heap.get? c = some o → h'.get? c = some o) → Q none { s with heap := h', toks := tk }) : wpAny (model prog w) A (pyNext (.ref z)) Q E s := by
  have hTy : s.TypeIs (.ref z) "zip" := ⟨_, hz, rfl⟩
  unfold pyNext
  refine wpAny_bind (wpAny_attempt (wpAny_callSpecial?_slot (name := Str.ofString "__next__") hTy F.slot_zip_next
    (wpAny_call_entry F.slot_zip_next hTy F.entry_zip_next (zipH_end S D1 D2 hz hT hTI st1 st2 hle1 hle2 hend fun h' tk e hk he => ?_) (F.args_zip_next_1 _))))
  obtain ⟨o, ho, hc⟩ := he
  refine wpAny_bind (wpAny_isInstance (T := "StopIteration") (b := true) ⟨o, ho, hc⟩ isSubtype_stop ?_)
  exact wpAny_pure (hQ _ _ hk)
end
/-- zip of two sequences, lists or tuples, as an argument of dict() -/
theorem pairArg_zipX {prog : Program} {w : World} {z TI TO i1 i2 l1 l2 : Addr} {ka kb : Bool} (S : ZipSep2 z TI TO i1 i2 [i1, l1] [i2, l2]) (n1' : l1 ≠ i1) (n2' : l2 ≠ i2) (l1z : l1 ≠ z) (l2z : l2 ≠ z) (xs ys : Array Value) :
    PairArg prog w "zip" z [z, TI, TO, i1, i2, l1, l2] [z, TO, i1, i2] (min xs.size ys.size) (fun i k v => xs[i]? = some k ∧ ys[i]? = some v)
      (fun h => IsZip h z TI TO .none ∧ IsTupOf2 h TI (.ref i1) (.ref i2) ∧ (∃ a b, IsTupOf2 h TO a b) ∧ (IterX ka h i1 l1 0 ∧ IsX ka h l1 xs) ∧ (IterX kb h i2 l2 0 ∧ IsX kb h l2 ys)) where
  type := fun s ok => ⟨_, ok.1, rfl⟩
  notDict := by decide
  keep := fun h h' ok hk => by
    obtain ⟨hz, hTI, ⟨a, b, hTO⟩, ⟨h1, hl1⟩, ⟨h2, hl2⟩⟩ := ok
    refine ⟨hk _ _ hz, hk _ _ hTI, ⟨a, b, hk _ _ hTO⟩, ⟨h1.at fun o e => hk _ o e, ?_⟩, ⟨h2.at fun o e => hk _ o e, ?_⟩⟩
    · cases ka with
      | true => exact (show h.IsTuple l1 xs from hl1).at fun o e => hk _ o e
      | false => exact (show h.IsList l1 xs from hl1).at fun o e => hk _ o e
    · cases kb with
      | true => exact (show h.IsTuple l2 ys from hl2).at fun o e => hk _ o e
      | false => exact (show h.IsList l2 ys from hl2).at fun o e => hk _ o e
  there := fun h ok b hb => by
    obtain ⟨hz, hTI, ⟨a, c, hTO⟩, ⟨h1, hl1⟩, ⟨h2, hl2⟩⟩ := ok
    obtain ⟨o1, e1, _⟩ := h1.ob
    obtain ⟨o2, e2, _⟩ := h2.ob
    have e3 : ∃ o, h.get? l1 = some o := by
      cases ka with
      | true => obtain ⟨o, e, _⟩ := (show h.IsTuple l1 xs from hl1); exact ⟨o, e⟩
      | false => obtain ⟨o, e, _⟩ := (show h.IsList l1 xs from hl1); exact ⟨o, e⟩
    have e4 : ∃ o, h.get? l2 = some o := by
      cases kb with
      | true => obtain ⟨o, e, _⟩ := (show h.IsTuple l2 ys from hl2); exact ⟨o, e⟩
      | false => obtain ⟨o, e, _⟩ := (show h.IsList l2 ys from hl2); exact ⟨o, e⟩
    simp only [List.mem_cons, List.not_mem_nil, or_false] at hb
    rcases hb with rfl | rfl | rfl | rfl | rfl | rfl | rfl
    all_goals first | exact ⟨_, hz⟩ | exact ⟨_, hTI⟩ | exact ⟨_, hTO⟩ | exact ⟨_, e1⟩ | exact ⟨_, e2⟩ | exact e3 | exact e4
  sub := fun b hb => by simp at hb ⊢; rcases hb with rfl | rfl | rfl | rfl <;> simp
  noKeys := fun A s Q E hA ok h => getAttrOr_miss_zip ok.1 rfl rfl rfl zip_no_keys (by decide +kernel) hA h
  iter := fun A s d Q E hA ok hd hdf h => by
    obtain ⟨hz, hTI, ⟨a, b, hTO⟩, st1, st2⟩ := ok
    simp only [List.mem_cons, List.not_mem_nil, or_false, not_or] at hdf
    obtain ⟨dz, dTI, dTO, di1, di2, dl1, dl2⟩ := hdf
    have hAi : A.in1.handled = none := hA
    have D1 := drawsX (prog := prog) (w := w) hAi ka i1 l1 n1' xs
    have D2 := drawsX (prog := prog) (w := w) hAi kb i2 l2 n2' ys
    refine wpAny_pyIter_zip hz (h z [z, TO, i1, i2] (fun i h => IsTupOf2 h TI (.ref i1) (.ref i2) ∧ (IterX ka h i1 l1 i ∧ IsX ka h l1 xs) ∧ (IterX kb h i2 l2 i ∧ IsX kb h l2 ys) ∧
      ((IsZip h z TI TO .none ∧ ∃ a b, IsTupOf2 h TO a b) ∨ ∃ T f oT, IsZipHeld h z TI TO T f ∧ h.get? T = some oT ∧ T ≠ z ∧ T ≠ i1 ∧ T ≠ i2 ∧ T ≠ d)) s.heap s.toks ?_
      ⟨hTI, st1, st2, .inl ⟨hz, a, b, hTO⟩⟩ (fun _ _ e => e) fun b hb => .inl hb)
    exact {
      off := fun hm => by
        simp only [List.mem_cons, List.not_mem_nil, or_false] at hm
        rcases hm with e | e | e | e
        · exact dz e
        · exact dTO e
        · exact di1 e
        · exact di2 e
      frame := fun i h₁ h₂ st hk => by
        obtain ⟨hTI, st1, st2, hz⟩ := st
        refine ⟨hk _ _ (Ne.symm dTI) hTI, D1.frame _ _ _ st1 fun b hb o e => hk b o (fun q => by simp at hb; rcases hb with hb | hb; exact di1 (q.symm.trans hb); exact dl1 (q.symm.trans hb)) e, D2.frame _ _ _ st2 fun b hb o e => hk b o (fun q => by simp at hb; rcases hb with hb | hb; exact di2 (q.symm.trans hb); exact dl2 (q.symm.trans hb)) e, ?_⟩
        rcases hz with ⟨hz, a, b, hTO⟩ | ⟨T, f, oT, hz, hT, r1, r2, r3, r4⟩
        · exact .inl ⟨hk _ _ (Ne.symm dz) hz, a, b, hk _ _ (Ne.symm dTO) hTO⟩
        · exact .inr ⟨T, f, oT, hk _ _ (Ne.symm dz) hz, hk _ _ r4 hT, r1, r2, r3, r4⟩
      item := fun i s₁ Q₁ E₁ hi st hds hQ => by
        obtain ⟨hTI, st1, st2, hz⟩ := st
        have hix : i < xs.size := Nat.lt_of_lt_of_le hi (Nat.min_le_left ..)
        have hiy : i < ys.size := Nat.lt_of_lt_of_le hi (Nat.min_le_right ..)
        have lt : ∀ {c o}, s₁.heap.get? c = some o → s₁.heap.objs.size ≠ c := fun e => Nat.ne_of_gt (Heap.lt_size e)
        have m1 : s₁.heap.objs.size ≠ i1 := let ⟨_, e, _⟩ := st1.1.ob; lt e
        have m2 : s₁.heap.objs.size ≠ i2 := let ⟨_, e, _⟩ := st2.1.ob; lt e
        rcases hz with ⟨hz, a, b, hTO⟩ | ⟨T, f, oT, hz, hT, r1, r2, r3, r4⟩
        · refine wpAny_pyNext_zipD2_item S D1 D2 hz hTI hTO st1 st2 hix hiy fun x1 x2 h' tk p1 p2 a1 a2 a3 a4 a5 a6 hk => ?_
          exact hQ s₁.heap.objs.size _ _ h' tk ⟨p1, p2⟩ (.inl ⟨_, a5, rfl, _, rfl⟩)
            ⟨hk _ _ S.TIz S.TITO S.TIi1 S.TIi2 hTI, a3, a4, .inr ⟨s₁.heap.objs.size, false, _, a1, a5, lt hz, m1, m2, Nat.ne_of_gt hds⟩⟩
            fun c o hc e => hk c o (fun x => hc (by simp [x])) (fun x => hc (by simp [x])) (fun x => hc (by simp [x])) (fun x => hc (by simp [x])) e
        · refine nextH_item S D1 D2 hz hT hTI st1 st2 hix hiy fun x1 x2 h' tk p1 p2 a1 a3 a4 a5 a6 hk => ?_
          exact hQ s₁.heap.objs.size _ _ h' tk ⟨p1, p2⟩ (.inl ⟨_, a5, rfl, _, rfl⟩)
            ⟨hk _ _ S.TIz S.TIi1 S.TIi2 hTI, a3, a4, .inr ⟨T, true, oT, a1, hk _ _ r1 r2 r3 hT, r1, r2, r3, r4⟩⟩
            fun c o hc e => hk c o (fun x => hc (by simp [x])) (fun x => hc (by simp [x])) (fun x => hc (by simp [x])) e
      done := fun s₁ Q₁ E₁ st hQ => by
        obtain ⟨hTI, st1, st2, hz⟩ := st
        have e1 : min xs.size ys.size ≤ xs.size := Nat.min_le_left ..
        have e2 : min xs.size ys.size ≤ ys.size := Nat.min_le_right ..
        have hend : min xs.size ys.size = xs.size ∨ min xs.size ys.size = ys.size := by omega
        rcases hz with ⟨hz, a, b, hTO⟩ | ⟨T, f, oT, hz, hT, r1, r2, r3, r4⟩
        · exact wpAny_pyNext_zipD2_end S D1 D2 hz hTI hTO st1 st2 e1 e2 hend fun h' tk hk => hQ h' tk fun c o hc e => hk c o (fun x => hc (by simp [x])) (fun x => hc (by simp [x])) (fun x => hc (by simp [x])) (fun x => hc (by simp [x])) e
        · exact nextH_end S D1 D2 hz hT hTI st1 st2 e1 e2 hend fun h' tk hk => hQ h' tk fun c o hc e => hk c o (fun x => hc (by simp [x])) (fun x => hc (by simp [x])) (fun x => hc (by simp [x])) e }
end Dn
set_option Elab.async false
set_option linter.all false
set_option maxRecDepth 100000
set_option maxHeartbeats 2000000
namespace Dn
open PySem PySem.Spec PyProof.Rows L2
variable [CTab]
def mergeT (kvs more : List (List Key × V)) : List (List Key × V) := more.foldl (fun acc kv => putK acc kv.1 kv.2) kvs
theorem length_mergeT : ∀ (more kvs : List (List Key × V)), (mergeT kvs more).length ≤ kvs.length + more.length
  | [], kvs => by show kvs.length ≤ kvs.length + 0; omega
  | p :: r, kvs => by
    have h1 := length_mergeT r (putK kvs p.1 p.2)
    have h2 := length_putK kvs p.1 p.2
    show (mergeT (putK kvs p.1 p.2) r).length ≤ _
    rw [List.length_cons]; omega
/-- dict(zip(a, b)) -/
def tDZ (K : PySem.W.Frag) (ta : TA) : TE := fun σ H Q => ta σ H fun vs H2 => ∃ ka kb a b xs ys, vs = [.ref a, .ref b] ∧ SqX K H2 ka a xs ∧ SqX K H2 kb b ys ∧ xs.length ≤ lim ∧
  ((∃ ks : List Key, xs = ks.map kV ∧ ∀ p, H2 p = none → Q (.ref p) (upd H2 p (.dK (mergeK [] (ks.zip ys))))) ∨
   (∃ (ks : List (List Key)) (bs : List Addr), xs = bs.map V.ref ∧ ks.length = bs.length ∧ (∀ (j : Nat) k b, ks[j]? = some k → bs[j]? = some b → H2 b = some (.tup (k.map kV))) ∧ ∀ p, H2 p = none → Q (.ref p) (upd H2 p (.dT (mergeT [] (ks.zip ys))))))
theorem kv_zip : ∀ {ks : List Key} {ys : List V} {us : List Value}, Vals ys us → KV (ks.zip ys) (ks.zip us)
  | [], _, _, _ => by rw [List.zip_nil_left, List.zip_nil_left]; exact .nil
  | _ :: _, _, _, .nil => by rw [List.zip_nil_right, List.zip_nil_right]; exact .nil
  | k :: ks, _, _, .cons h t => .cons ⟨rfl, h⟩ (kv_zip t)
theorem kt_merge {H : Hp} : ∀ (ks : List (List Key)) {bs : List Addr} {ys : List V} {us : List Value} {kvs : List (List Key × V)} {xs : List (List Key × Addr × Value)}, ks.length = bs.length → (∀ (j : Nat) k b, ks[j]? = some k → bs[j]? = some b → H b = some (.tup (k.map kV))) → Vals ys us → KT H kvs xs →
    KT H (mergeT kvs (ks.zip ys)) (storedAllH xs (ks.zip (bs.zip us)))
  | [], _, _, _, _, _, _, _, _, r => by rw [List.zip_nil_left, List.zip_nil_left]; exact r
  | k :: ks, [], _, _, _, _, h, _, _, _ => by simp at h
  | k :: ks, b :: bs, _, _, _, _, h, hb, v, r => by
    cases v with
    | nil => simp only [List.zip_nil_right]; exact r
    | cons h1 t =>
      have := KT.put r k (hb 0 k b rfl rfl) h1
      exact kt_merge ks (by simpa using h) (fun j k' b' e1 e2 => hb (j + 1) k' b' (by simpa using e1) (by simpa using e2)) t this
theorem pe_dictzip {X : Cx} {K : PySem.W.Frag} {e e2 : Expr} {ta tb : TE} {p0 pos p pos2 : Pos} (hK : X.K = K) (hc : X.calm = true) (hu : X.A.units + 64 < cLine) (hgd : Gl X "dict") (hmd : X.mg "dict" = none) (hg : Gl X "zip") (hm : X.mg "zip" = none) (h1 : PE X e ta) (h2 : PE X e2 tb)
    (hs1 : starEach [.Call (.Name "zip" p) [e, e2] [] pos2] X.env = (false, eval (.Call (.Name "zip" p) [e, e2] [] pos2) X.env) :: starEach [] X.env := by rfl) (hp1 : (backTo pos (starEach [] X.env)).any (·.1) = false := by rfl)
    (he1 : starEach [e, e2] X.env = (false, eval e X.env) :: starEach [e2] X.env := by rfl) (he2 : starEach [e2] X.env = (false, eval e2 X.env) :: starEach [] X.env := by rfl) (hpl : (backTo pos2 (starEach [e2] X.env)).any (·.1) = false := by rfl) :
    PE X (.Call (.Name "dict" p0) [.Call (.Name "zip" p) [e, e2] [] pos2] [] pos) (tDZ K (tCons ta (tCons tb tNil))) := by
  subst hK
  have ha : PA X [e, e2] (tCons ta (tCons tb tNil)) := pa_cons h1 (pa_cons h2 pa_nil he2) he1
  refine ⟨fun pins s σ H Q I h => ?_⟩
  refine wpAny_Call_Name_kw (ld_blt I hgd hmd boot_dict ?_)
  refine PyProof.Rows.callWith_type1 ?_ hs1 hp1
  rw [hs1]
  show wpAny _ _ (spliced ((false, eval (.Call (.Name "zip" p) [e, e2] [] pos2) X.env) :: backTo pos (starEach [] X.env))) _ _ s
  refine Calls.spliced_cons ?_
  refine wpAny_Call_Name_kw (ld_blt I hg hm boot_zip ?_)
  refine PyProof.Rows.callWith_type1 (thn (ha.run pos2 pins s σ H _ I h) fun us s1 ⟨vs, H1, I1, r1, ka, kb, a, b, xs, ys, ev, hqx, hqy, hlx, q⟩ => ?_) he1 hpl
  subst ev
  cases r1 with
  | cons r rr =>
    cases rr with
    | cons r' rr =>
      cases rr
      cases r
      cases r'
      obtain ⟨its, rv, p1, la⟩ := sqx_of I1 hqx
      obtain ⟨its2, rv2, p2, lb⟩ := sqx_of I1 hqy
      obtain ⟨o1, b1, it1⟩ := beginsX ka a its.toArray
      obtain ⟨o2, b2, it2⟩ := beginsX kb b its2.toArray
      refine zip_begins2 b1 b2 p1 p2 fun h1' hz hTI hTO g1 g2 hsz hk => Calls.spliced_nil ?_
      have hh : X.A.handled = none := I1.ok.hd hc
      have S := zip_sep2 (N := s1.heap.objs.size) (fp1 := [a]) (fp2 := [b]) (by simpa using la) (by simpa using lb)
      have P := pairArg_zipX (prog := X.prog) (w := X.w) (ka := ka) (kb := kb) S (Nat.ne_of_lt la) (Nat.ne_of_lt (Nat.lt_succ_of_lt lb)) (Nat.ne_of_lt (Nat.lt_of_lt_of_le la (Nat.le_add_right _ _))) (Nat.ne_of_lt (Nat.lt_of_lt_of_le lb (Nat.le_add_right _ _))) its.toArray its2.toArray
      have kx : ∀ (k : Bool) (c : Addr) (l : List Value), IsX k s1.heap c l.toArray → IsX k h1' c l.toArray := fun k c l hx => by
        cases k with
        | true => exact (show s1.heap.IsTuple c l.toArray from hx).at fun o e => hk _ o e
        | false => exact (show s1.heap.IsList c l.toArray from hx).at fun o e => hk _ o e
      have ok : IsZip h1' (s1.heap.objs.size + 4) (s1.heap.objs.size + 2) (s1.heap.objs.size + 3) .none ∧ IsTupOf2 h1' (s1.heap.objs.size + 2) (.ref s1.heap.objs.size) (.ref (s1.heap.objs.size + 1)) ∧ (∃ a b, IsTupOf2 h1' (s1.heap.objs.size + 3) a b) ∧
          (IterX ka h1' s1.heap.objs.size a 0 ∧ IsX ka h1' a its.toArray) ∧ (IterX kb h1' (s1.heap.objs.size + 1) b 0 ∧ IsX kb h1' b its2.toArray) := ⟨hz, hTI, ⟨_, _, hTO⟩, ⟨it1 _ _ g1, kx ka a its p1⟩, ⟨it2 _ _ g2, kx kb b its2 p2⟩⟩
      have l1 := rv.length
      have l2 := rv2.length
      have hn : min its.toArray.size its2.toArray.size ≤ sizeLine := by
        have := lim_size hlx
        simp only [List.size_toArray]; omega
      have old : ∀ c o, s1.heap.get? c = some o → c ∉ [s1.heap.objs.size + 4, s1.heap.objs.size + 3, s1.heap.objs.size, s1.heap.objs.size + 1] := fun c o e hm => by
        have := Heap.lt_size e
        simp only [List.mem_cons, List.not_mem_nil, or_false] at hm
        rcases hm with q | q | q | q
        all_goals rw [q] at this
        all_goals first | exact Nat.lt_irrefl _ this | exact absurd this (Nat.not_lt.mpr (Nat.le_add_right _ _))
      have low : (h1'.objs.size == sysModules) = false := by
        have := I1.big
        rw [hsz]
        exact beq_eq_false_iff_ne.mpr (Nat.ne_of_gt (Nat.lt_of_lt_of_le this (Nat.le_add_right _ _)))
      have hle : s1.heap.objs.size ≤ h1'.objs.size := by rw [hsz]; exact Nat.le_add_right _ _
      rcases q with ⟨ks, ex, q⟩ | ⟨ks, bs, ex, hkl, hbs, q⟩
      · subst ex
        refine call_dict_pairs (s := { s1 with heap := h1' }) (knd := mixKind X.prog X.w) (kvs := ks.zip its2) P hh ok ⟨?_, fun i key v hR => ?_⟩ hn fun h' tk dd hk' => ?_
        · simp only [List.length_zip, List.size_toArray]
          rw [List.length_map] at l1
          omega
        · obtain ⟨e1, e2⟩ := hR
          have e1 : its[i]? = some key := by simpa using e1
          have e2 : its2[i]? = some v := by simpa using e2
          have hi : i < ks.length := by
            have := (List.getElem?_eq_some_iff.mp e1).1
            rw [List.length_map] at l1
            omega
          obtain ⟨u, eu, ru⟩ := rv.get (i := i) (x := kV ks[i]) (by simp [hi])
          rw [e1] at eu
          cases eu
          refine ⟨ks[i], ?_, kV_is ru⟩
          rw [List.getElem?_zip_eq_some]
          exact ⟨by simp [hi], e2⟩
        · refine ⟨.ref h1'.objs.size, _, I1.laid (t' := tk) (fun c o e => hk' c o (old c o e) (hk c o e)) hle ?_, rfl, q _ (I1.hok.fresh hle)⟩
          refine dk_new ?_ low ((kv_zip rv2).merge .nil) dd
          have h1 := length_mergeK (ks.zip ys) []
          have h2 := lim_size hlx
          rw [List.length_nil, List.length_zip] at h1
          rw [List.length_map] at h2
          omega
      · subst ex
        refine call_dict_pairsH (s := { s1 with heap := h1' }) (knd := tupleKind (mixKind X.prog X.w)) (ps := ks.zip (bs.zip its2)) P hh (show X.A.units + 1 + 1 < cLine by omega) ok ⟨?_, fun i key v hR => ?_⟩ (fun h' hk' x hx => ?_) hn fun h' tk dd hk' => ?_
        · simp only [List.length_zip, List.size_toArray]
          rw [List.length_map] at l1
          omega
        · obtain ⟨e1, e2⟩ := hR
          have e1 : its[i]? = some key := by simpa using e1
          have e2 : its2[i]? = some v := by simpa using e2
          have hi : i < bs.length := by
            have := (List.getElem?_eq_some_iff.mp e1).1
            rw [List.length_map] at l1
            omega
          have hi' : i < ks.length := by omega
          obtain ⟨u, eu, ru⟩ := rv.get (i := i) (x := V.ref bs[i]) (by simp [hi])
          rw [e1] at eu
          cases eu
          refine ⟨ks[i], bs[i], ?_, ru⟩
          rw [List.getElem?_zip_eq_some]
          refine ⟨by simp [hi'], ?_⟩
          rw [List.getElem?_zip_eq_some]
          exact ⟨by simp [hi], e2⟩
        · obtain ⟨i, hi, ei⟩ := List.getElem_of_mem hx
          have e0 : (ks.zip (bs.zip its2))[i]? = some x := List.getElem?_eq_some_iff.mpr ⟨hi, ei⟩
          rw [List.getElem?_zip_eq_some] at e0
          obtain ⟨e1, e0⟩ := e0
          rw [List.getElem?_zip_eq_some] at e0
          obtain ⟨e2, _⟩ := e0
          have hb := hbs i x.1 x.2.1 e1 e2
          obtain ⟨o, its', n, a1, a2, a3, a4⟩ := key_of I1.hok hb
          have hlt := Heap.lt_size a1
          refine ⟨o, its', n, hk' _ _ ?_ (old _ _ a1) (hk _ _ a1), a2, a3, a4⟩
          show x.2.1 ≠ h1'.objs.size
          rw [hsz]
          exact Nat.ne_of_lt (Nat.lt_of_lt_of_le hlt (Nat.le_add_right _ _))
        · obtain ⟨od, es, ep, hq, d2, d3, d4, _, d5⟩ := dd
          refine ⟨.ref h1'.objs.size, _, I1.laid (t' := tk) (fun c o e => hk' c o (old c o e) (hk c o e)) hle ?_, rfl, q _ (I1.hok.fresh hle)⟩
          refine ⟨?_, low, _, (kt_merge ks hkl hbs rv2 .nil).keeps fun c zs ec => ?_, od, es, ep, hq, d2, d3, d4, d5⟩
          · have h1 := length_mergeT (ks.zip ys) []
            have h2 := lim_size hlx
            rw [List.length_nil, List.length_zip] at h1
            rw [List.length_map] at h2
            omega
          · rw [upd_ne (ne_of_none ec (I1.hok.fresh hle))]; exact ec
end Dn
set_option Elab.async false
set_option linter.all false
set_option maxRecDepth 100000
set_option maxHeartbeats 2000000
namespace Dn
open PySem L2
variable [CTab]
/-! ### what an expression gives is locked for good -/
def tFrz (te : TE) : TE := fun σ H Q => te σ H fun v H1 => ∃ d u, v = .ref d ∧ H1 d = some u ∧ Mut (some u) ∧ ∀ od, Q v (upd H1 d (.frz od u))
theorem pe_frz {X : Cx} {e : Expr} {t : TE} (h : PE X e t) : PE X e (tFrz t) := by
  refine ⟨fun pins s σ H Q I hw => ?_⟩
  refine thn (h.run pins s σ H _ I hw) fun v s1 ⟨x, H1, I1, r1, d, u, ex, hd, mu, q⟩ => ?_
  obtain ⟨od, I2⟩ := I1.lock hd mu
  exact ⟨x, _, I2, r1, q od⟩
def mergeU {κ : Type} [DecidableEq κ] (kvs more : List (κ × U)) : List (κ × U) := more.foldl (fun acc kv => putU acc kv.1 kv.2) kvs
theorem Rpk.merge {B : Hp} : ∀ (ks : List Key) {ys : List U} {vs : List V} {kvs : List (Key × U)} {es : List (Key × V)}, Rps B ys vs → Rpk B kvs es → Rpk B (mergeU kvs (ks.zip ys)) (mergeK es (ks.zip vs))
  | [], _, _, _, _, _, r => by rw [List.zip_nil_left, List.zip_nil_left]; exact r
  | k :: ks, _, _, _, _, .nil, r => by rw [List.zip_nil_right, List.zip_nil_right]; exact r
  | k :: ks, _, _, _, _, .cons h t, r => Rpk.merge ks t (r.put h k)
theorem Rpt.merge {B : Hp} : ∀ (ks : List (List Key)) {ys : List U} {vs : List V} {kvs : List (List Key × U)} {es : List (List Key × V)}, Rps B ys vs → Rpt B kvs es → Rpt B (mergeU kvs (ks.zip ys)) (mergeT es (ks.zip vs))
  | [], _, _, _, _, _, r => by rw [List.zip_nil_left, List.zip_nil_left]; exact r
  | k :: ks, _, _, _, _, .nil, r => by rw [List.zip_nil_right, List.zip_nil_right]; exact r
  | k :: ks, _, _, _, _, .cons h t, r => Rpt.merge ks t (r.put h k)
def keysT : List U → Option (List (List Key))
  | [] => some []
  | .tup ys :: xs => (keysL ys).bind fun k => (keysT xs).map fun r => k :: r
  | _ :: _ => none
theorem Rps.keysT {B : Hp} : ∀ {xs : List U} {vs : List V} {ks : List (List Key)}, Rps B xs vs → keysT xs = some ks → ∃ bs : List Addr, vs = bs.map V.ref ∧ ks.length = bs.length ∧ ∀ (j : Nat) k b, ks[j]? = some k → bs[j]? = some b → B b = some (.tup (k.map kV))
  | _, _, _, .nil, h => by cases h; exact ⟨[], rfl, rfl, fun j k b e => by simp at e⟩
  | _, _, _, .cons (@Rp.tup _ _ a ys ws e r) t, h => by
    obtain ⟨k, ek, h⟩ := bind_some h
    obtain ⟨ks, eks, h⟩ := map_some h
    subst h
    obtain ⟨bs, e1, e2, e3⟩ := Rps.keysT t eks
    refine ⟨a :: bs, by rw [e1]; rfl, by simp [e2], fun j k' b h1 h2 => ?_⟩
    cases j with
    | zero => simp at h1 h2; subst h1 h2; rw [← r.keys ek]; exact e
    | succ j => exact e3 j k' b (by simpa using h1) (by simpa using h2)
def dzV (x y : U) : Option U := x.items.bind fun xs => y.items.bind fun ys => if xs.length ≤ lim then match keysL xs with
  | some ks => some (.dic (mergeU [] (ks.zip ys)))
  | none => (keysT xs).map fun ks => .dit (mergeU [] (ks.zip ys)) else none
theorem eo_dictzip {K : PySem.W.Frag} {σ : L2.St} {B H : Hp} {ta tb : TE} {oa ob : Option U} (ha : EvO ta σ B H oa) (hb : EvO tb σ B H ob) : EvO (tFrz (tDZ K (tCons ta (tCons tb tNil)))) σ B H (op2 dzV oa ob) := fun z e B1 H1 g Q q => by
  obtain ⟨x, ex, e⟩ := bind_some e
  obtain ⟨y, ey, e⟩ := bind_some e
  obtain ⟨xs, exs, e⟩ := bind_some e
  obtain ⟨ys, eys, e⟩ := bind_some e
  split at e
  · rename_i hl
    refine ha x ex B1 H1 g _ fun v B2 H2 g2 r2 => hb y ey B2 H2 (g.trans g2) _ fun w B3 H3 g3 r3 => ?_
    obtain ⟨ka, a, vs, rfl, ra, sa⟩ := sqx_items (K := K) exs (r2.up g3)
    obtain ⟨kb, b, ws, rfl, rb, sb⟩ := sqx_items (K := K) eys r3
    refine ⟨ka, kb, a, b, vs, ws, rfl, sa H3 g3.bh, sb H3 g3.bh, by rw [ra.length]; exact hl, ?_⟩
    have fin : ∀ (p : Addr) (od : Obj) (u : HO), H3 p = none → Go B1 H1 (upd B3 p (.frz od u)) (upd (upd H3 p u) p (.frz od u)) := fun p od u hp => by
      have e0 : upd (upd H3 p u) p (.frz od u) = upd H3 p (.frz od u) := by
        funext c
        by_cases hc : c = p
        · subst hc; rw [upd_same, upd_same]
        · rw [upd_ne hc, upd_ne hc, upd_ne hc]
      rw [e0]
      exact (g2.trans g3).trans (Go.new g3.bh hp)
    have sm : ∀ (p : Addr) (o : HO), H3 p = none → Same B3 (upd B3 p o) := fun p o hp => same_lock (g3.bh.free hp)
    split at e
    · rename_i ks eks
      cases e
      refine .inl ⟨ks, ra.keys eks, fun p hp => ⟨p, _, rfl, upd_same, trivial, fun od => ?_⟩⟩
      exact q _ _ _ (fin p od _ hp) (.dic upd_same ((Rpk.merge ks rb .nil).kp (Kp.of (sm p _ hp))))
    · obtain ⟨ks, eks, e⟩ := map_some e
      subst e
      obtain ⟨bs, e1, e2, e3⟩ := ra.keysT eks
      refine .inr ⟨ks, bs, e1, e2, fun j k b h1 h2 => g3.bh _ _ (e3 j k b h1 h2), fun p hp => ⟨p, _, rfl, upd_same, trivial, fun od => ?_⟩⟩
      exact q _ _ _ (fin p od _ hp) (.dit upd_same ((Rpt.merge ks rb .nil).kp (Kp.of (sm p _ hp))))
  · cases e
/-! ### (a, b), c = .. -/
def unpQ {α : Type} (u : U) (f : U → U → U → Option α) : Option α := (unp2 u).bind fun ab => (unp2 ab.1).bind fun cd => f cd.1 cd.2 ab.2
theorem g_nest {α : Type} {K : PySem.W.Frag} {i j l : Nat} {u : U} {v : V} {B H : Hp} {σ : L2.St} {Q : L2.St → Hp → Prop} {f : U → U → U → Option α} {m : α} (s : Same B H) (r : Rp B u v) (e : unpQ u f = some m)
    (k : ∀ a b c x y z, Rp B a x → Rp B b y → Rp B c z → f a b c = some m → Q (((σ.set i (some x)).set j (some y)).set l (some z)) H) :
    gTup K 2 (gCons (gTup K 2 (gCons (gName i) (gCons (gName j) gNil))) (gCons (gName l) gNil)) v σ H Q := by
  obtain ⟨⟨ab, c⟩, e1, e⟩ := bind_some e
  obtain ⟨⟨a, b⟩, e2, e⟩ := bind_some e
  have e1 := unp2_tup e1
  subst e1
  have e2 := unp2_tup e2
  have e2 : ab = .tup [a, b] := e2
  subst e2
  cases r with
  | @tup ad _ vs h1 r =>
    cases r with
    | cons r1 t =>
      cases t with
      | cons r2 t =>
        cases t
        cases r1 with
        | @tup ad2 _ vs2 h2 rr =>
          cases rr with
          | cons q1 t =>
            cases t with
            | cons q2 t =>
              cases t
              exact ⟨ad, _, rfl, SqT.of (s _ _ h1), rfl, _, _, rfl, ad2, _, rfl, SqT.of (s _ _ h2), rfl, _, _, rfl, _, _, rfl, rfl, _, _, rfl, rfl, k a b c _ _ _ q1 q2 r2 e⟩
end Dn
set_option Elab.async false
set_option linter.all false
set_option maxRecDepth 100000
set_option maxHeartbeats 2000000
namespace Dn
open PySem PySem.Spec PyProof.Rows L2
variable [CTab]
/-! ### a written dict with text keys and ints: d.get(x, y) -/
def tKGet (K : PySem.W.Frag) (d : Addr) (ty tx : TE) : TE := fun σ H Q => ty σ H fun y H2 => tx σ H2 fun z H3 => ∃ (t : Str) (r : Option Value), y = .str t ∧ PySem.W.nsIn K d t = some r ∧ (∀ u0, r = some u0 → ∃ v0, RelV v0 u0 ∧ Q v0 H3) ∧ (r = none → Q z H3)
theorem pe_kget {X : Cx} {o e f : Expr} {apos cpos : Pos} {d : Addr} {es : Array DictEntry} {n : Nat} {ty tx : TE} (D : KDict X.K X.w d es n) (ho : PE X o (tC (.ref d))) (he : PE X e ty) (hf : PE X f tx) (m : M2 X o "get" apos e f cpos) :
    PE X (.Call (.Attribute o "get" apos) [e, f] [] cpos) (tKGet X.K d ty tx) := by
  refine ⟨fun pins s σ H Q I h => ?_⟩
  refine wpAny_Call_method m.base m.few m.line PySem.F.plainAttrs_dict PySem.F.slot_dict_get PySem.F.type_dict_get (thn (ho.run pins s σ H (fun v H' => v = .ref d ∧ H' = H) I ⟨rfl, rfl⟩) fun u s1 ⟨x, H1, I1, rx, ex, eH⟩ => ?_)
  subst ex eH
  obtain rfl : u = Value.ref d := rx
  have mp := PySem.W.mapOf_K (prog := X.prog) (w := X.w) I1.kIn D.at_ D.lit
  refine ⟨mp.typeIs, mp.noDict, ?_⟩
  rw [m.trees]
  refine Calls.callWith_builtin rfl (Calls.evalArgs_plain (Calls.spliced_cons (thn (he.run pins s1 σ H1 _ I1 h) fun iv s2 ⟨y, H2, I2, ry, q2⟩ => Calls.spliced_cons (thn (hf.run pins s2 σ H2 _ I2 q2) fun fv s3 ⟨z, H3, I3, rz, t, r, ey, er, q3, q4⟩ => Calls.spliced_nil ?_))))
  subst ey
  obtain ⟨tk, rfl⟩ := ry
  have mp3 := PySem.W.mapOf_K (prog := X.prog) (w := X.w) I3.kIn D.at_ D.lit
  refine call_meetsIn PySem.F.slot_dict_get mp3.typeIs PySem.F.entry_dict_get (PySem.F.args_dict_get_3 _ _ _) (meets_dict_get_default (PySem.strKind X.prog X.w) d (PySem.strKind_is X.prog X.w t tk) D.low fv) ⟨_, mp3, ?_⟩
  rw [PySem.W.find_K D.at_ er]
  cases r with
  | none => exact ⟨z, H3, I3.tok _, rz, q4 rfl⟩
  | some u0 =>
    obtain ⟨v0, rv, q⟩ := q3 u0 rfl
    exact ⟨v0, H3, I3.tok _, rv, q⟩
/-- what the table has, as data -/
def KTab (K : PySem.W.Frag) (d : Addr) (tab : List (Str × Int)) : Prop := ∀ t : Str, ∃ r, PySem.W.nsIn K d t = some r ∧ (∀ i, tab.lookup t = some i → ∃ tk, r = some (.int i tk)) ∧ (tab.lookup t = none → r = none)
def kgetV (tab : List (Str × Int)) : U → U → Option U
  | .str t, z => match tab.lookup t with
    | some i => some (.int i)
    | none => some z
  | _, _ => none
theorem eo_kget {K : PySem.W.Frag} {d : Addr} {tab : List (Str × Int)} {σ : L2.St} {B H : Hp} {ty tx : TE} {oa ob : Option U} (kt : KTab K d tab) (ha : EvO ty σ B H oa) (hb : EvO tx σ B H ob) : EvO (tKGet K d ty tx) σ B H (op2 (kgetV tab) oa ob) := fun z e B1 H1 g Q q => by
  obtain ⟨x, ex, e⟩ := bind_some e
  obtain ⟨y, ey, e⟩ := bind_some e
  refine ha x ex B1 H1 g _ fun v B2 H2 g2 r2 => hb y ey B2 H2 (g.trans g2) _ fun w B3 H3 g3 r3 => ?_
  cases r2 with
  | str t =>
    obtain ⟨r, er, h1, h2⟩ := kt t
    have e2 : (match tab.lookup t with | some i => some (U.int i) | none => some y) = some z := e
    clear e
    split at e2
    · rename_i i ei
      cases e2
      obtain ⟨tk, rfl⟩ := h1 i ei
      exact ⟨t, _, rfl, er, fun u0 e0 => by cases e0; exact ⟨.int i, ⟨tk, rfl⟩, q _ B3 H3 (g2.trans g3) (.int _)⟩, fun e0 => by cases e0⟩
    · rename_i ei
      cases e2
      exact ⟨t, r, rfl, er, (fun u0 e0 => by rw [h2 ei] at e0; cases e0), fun _ => q _ B3 H3 (g2.trans g3) r3⟩
  | _ => cases e
theorem tup1 {w0 : U} {rest : List U} (h : rest.length ≤ lim) : callO (c1 tupleV) (consO (slO (some (U.lst (w0 :: rest))) (ptO (some (U.int 1))) (some none)) (some [])) = some (U.tup rest) := by
  have e : slO (some (U.lst (w0 :: rest))) (ptO (some (U.int 1))) (some none) = some (U.lst rest) := cut1
  rw [e]
  rfl
theorem it1 {w0 : U} {rest : List U} : iterO U.iter (slO (some (U.lst (w0 :: rest))) (ptO (some (U.int 1))) (some none)) = some rest := by
  have e : slO (some (U.lst (w0 :: rest))) (ptO (some (U.int 1))) (some none) = some (U.lst rest) := cut1
  rw [e]
  rfl
end Dn
set_option Elab.async false
set_option linter.all false
set_option maxRecDepth 100000
set_option maxHeartbeats 2000000
namespace Dn
open PySem L2 PySem.Spec PyProof.Rows
/-! ### a written table -/
def entI (e : DictEntry) : Option (Str × Int) := match e.key, e.val with
  | .str x _, .int i _ => some (x, i)
  | _, _ => none
theorem ent_find {t : Str} : ∀ {es : List DictEntry} {tab : List (Str × Int)}, es.map entI = tab.map some →
    (∀ i, tab.lookup t = some i → ∃ e tk, es.find? (fun e => e.key.isStr t) = some e ∧ e.val = .int i tk) ∧ (tab.lookup t = none → es.find? (fun e => e.key.isStr t) = none) ∧ es.any (·.refKey) = false
  | [], [], _ => ⟨fun i h => (by cases h), fun _ => rfl, rfl⟩
  | [], _ :: _, h => by cases h
  | _ :: _, [], h => by cases h
  | e :: es, (k, n) :: tab, h => by
    rw [List.map_cons, List.map_cons] at h
    injection h with h1 h2
    obtain ⟨i1, i2, i3⟩ := ent_find (t := t) h2
    obtain ⟨eh, ek, ev⟩ := e
    unfold entI at h1
    simp only at h1
    split at h1
    · rename_i x tk i tk2
      cases h1
      have e3 : ((⟨eh, .str k tk, .int n tk2⟩ : DictEntry) :: es).any (·.refKey) = false := by
        rw [List.any_cons, i3]; rfl
      by_cases hk : t = k
      · subst hk
        have e1 : ((t, n) :: tab).lookup t = some n := by simp [List.lookup]
        have e2 : ((⟨eh, .str t tk, .int n tk2⟩ : DictEntry) :: es).find? (fun e => e.key.isStr t) = some ⟨eh, .str t tk, .int n tk2⟩ := by
          rw [List.find?_cons_of_pos]
          show (Value.str t tk).isStr t = true
          simp [Value.isStr]
        rw [e1, e2]
        exact ⟨fun i hi => by cases hi; exact ⟨_, tk2, rfl, rfl⟩, fun hi => (by cases hi), e3⟩
      · have e1 : ((k, n) :: tab).lookup t = tab.lookup t := by
          rw [List.lookup_cons]
          have : (t == k) = false := by simpa using hk
          rw [this]
        have e2 : ((⟨eh, .str k tk, .int n tk2⟩ : DictEntry) :: es).find? (fun e => e.key.isStr t) = es.find? (fun e => e.key.isStr t) := by
          rw [List.find?_cons_of_neg]
          show ¬ (Value.str k tk).isStr t = true
          simp [Value.isStr]
          exact fun z => hk z.symm
        rw [e1, e2]
        exact ⟨i1, i2, e3⟩
    · cases h1
theorem ktab_of {K : PySem.W.Frag} {d : Addr} {es : Array DictEntry} {n : Nat} {tab : List (Str × Int)} (h : K.lookup d = some ⟨.type "dict", none, .dict es n, #[]⟩) (e : es.toList.map entI = tab.map some) : KTab K d tab := fun t => by
  obtain ⟨i1, i2, i3⟩ := ent_find (t := t) e
  unfold PySem.W.nsIn
  rw [h]
  simp only
  cases q : tab.lookup t with
  | some i =>
    obtain ⟨en, tk, f1, f2⟩ := i1 i q
    rw [f1]
    exact ⟨_, rfl, fun j hj => by cases hj; exact ⟨tk, by rw [f2]⟩, fun z => by cases z⟩
  | none =>
    rw [i2 q, i3]
    exact ⟨none, rfl, fun j hj => (by cases hj), fun _ => rfl⟩
theorem kdict_of {K : PySem.W.Frag} {w : World} {d : Addr} {es : Array DictEntry} {n : Nat} (h : K.lookup d = some ⟨.type "dict", none, .dict es n, #[]⟩) (k : PySem.W.KeysLit w.params es.toList) (l : (d == sysModules) = false) : ∃ es n, KDict K w d es n := ⟨es, n, h, k, l⟩
/-! ### no list stands in the written part -/
def noList (K : PySem.W.Frag) : Bool := K.all fun p => match p.2.cls with
  | .type c => !(c == "list")
  | _ => true
theorem noList_sq {K : PySem.W.Frag} (h : noList K = true) {H : Hp} {a : Addr} {xs : List V} (s : SqL K H a xs) : Rd H a (.lst xs) := by
  rcases s with s | ⟨o, its, n, hk, hc, _⟩
  · exact s
  · exfalso
    have hm : (a, o) ∈ K := by
      clear h
      induction K with
      | nil => cases hk
      | cons p K ih =>
        obtain ⟨b, q⟩ := p
        rw [List.lookup_cons] at hk
        split at hk
        · rename_i e
          cases hk
          have : a = b := by simpa using e
          subst this
          exact List.mem_cons_self ..
        · exact List.mem_cons_of_mem _ (ih hk)
    have := List.all_eq_true.mp h _ hm
    rw [hc] at this
    exact absurd this (by decide)
/-! ### a law's promise -/
def spLaw : Sp := fun vs H Q _ => ∃ (a : Addr) (o : Obj) (ns : List Int), vs = [.ref a] ∧ H a = some (.frz o (.lst (ns.map V.int))) ∧ ns.length ≤ 63 ∧ ∀ H', Q (.bl true) H'
theorem spLaw_of [CTab] {m : U → Option U} (hm : ∀ ns : List Int, ns.length ≤ 63 → m (.frl (ns.map U.int)) = some (.bl true)) (vs : List V) (H : Hp) (Q : VK) (E : XK) (h : spLaw vs H Q E) : spU (a1 m) vs H Q E := by
  obtain ⟨a, o, ns, rfl, ha, hl, q⟩ := h
  refine ⟨upd (fun _ => none) a (.frz o (.lst (ns.map V.int))), [.frl (ns.map U.int)], .bl true, fun b u e => ?_, .cons (.frl upd_same (Rps.ints ns)) .nil, hm ns hl, fun v B2 H2 _ r => ?_⟩
  · by_cases hb : b = a
    · subst hb; rw [upd_same] at e; rw [ha]; exact e
    · rw [upd_ne hb] at e; cases e
  · cases r; exact q H2
theorem FnG.imp {P : Program} {w : World} {K : PySem.W.Frag} {mg : Str → Option Value} {base : Heap} {CX : CXT} {k : Nat} {f : Addr} {fd : FuncData} {ps : List Str} {sp sp' : Sp} (F : FnG P w K mg base CX k f fd ps sp) (h : ∀ vs H Q E, sp' vs H Q E → sp vs H Q E) : FnG P w K mg base CX k f fd ps sp' :=
  ⟨fun vs H Q E z => F.len vs H Q E (h _ _ _ _ z), fun A outer s H args us vs Q E hg hr he hb hv hs => F.run A outer s H args us vs Q E hg hr he hb hv (h _ _ _ _ hs)⟩
theorem walk_law {l : PySem.W.OpenLaw} {k : Nat} {q : Program} {loose : List Str} {XP : (Str → Option Value) → Heap → Prop} {YP : World → Heap → Prop} {d : DefRec} {K : Params → PySem.W.Frag} {x : Str}
    (hn : l.most = some 63) (df : d.params.defaults = []) (hr : Room k callerA) (hY : ∀ (w : World) (h : Heap), YP w h → (K w.params).In h) (hL : ∀ w : World, noList (K w.params) = true) (hI : importsNone q = true)
    (F : ∀ (w : World) (mg : Str → Option Value) (fa : Addr) (h : Heap), (K w.params).In h → h.Ns mainGlobals mg → mg d.name = some (.ref fa) →
      ∃ fd : FuncData, (∀ (s : Shared) (u : Value), BindsTo s fd ⟨[u], []⟩ [(x, u)]) ∧ ∀ base : Heap, (K w.params).In base → base.Ns mainGlobals mg → SmB base → FnG l.prog w (K w.params) mg base CX0 k fa fd [x] spLaw) :
    PySem.W.WalkO q loose XP YP l.row.toRowW d [] (fun f vs => PySem.call f vs) := by
  refine Att.attach_call hn df fun w s0 s1 mg mb fa o pm cd doc a vs ns G Y ho hd hcd hmg ha hi hlen g0 => ?_
  have KX := hY w _ Y
  obtain ⟨fd, hb, hF⟩ := F w mg fa _ KX G.T.g hmg
  refine law_callG KX G.T.g G.T.b G.T.builtins G.T.nolimit (let ⟨m, h, _⟩ := (G.T.seer hI).mods; ⟨m, h⟩) g0 ha hi (Nat.le_trans hlen (by decide)) hr hF hb (fun H hO hS => ?_) fun H e s2 h => h
  rcases hO a with z | ⟨ob, xs, z⟩
  · rcases noList_sq (hL w) hS with y | ⟨_, y⟩
    · rw [z] at y; cases y
    · rw [z] at y; cases y
  · rcases noList_sq (hL w) hS with y | ⟨_, y⟩
    · rw [z] at y; cases y
    · exact ⟨a, _, ns, rfl, y, hlen, fun _ => rfl⟩
end Dn
set_option Elab.async false
set_option linter.all false
set_option maxRecDepth 100000
set_option maxHeartbeats 2000000
namespace Dn
open PySem L2
/-! ### the combinators, plainly -/
section
variable {α β : Type} {a b : U} {l : List U} {f : U → U → Option U} {us : List U}
@[simp] theorem op2_s : op2 f (some a) (some b) = f a b := rfl
@[simp] theorem op1_s {g : U → Option U} : op1 g (some a) = g a := rfl
@[simp] theorem callO_s {m : List U → Option U} : callO m (some l) = m l := rfl
@[simp] theorem consO_s : consO (some a) (some l) = some (a :: l) := rfl
@[simp] theorem isO_s {g : U → Option Bool} : isO g (some a) = (g a).map U.bl := rfl
@[simp] theorem testO_s {c : Bool} : testO (some (.bl c)) = some c := rfl
@[simp] theorem ifO_t {x y : Option α} : ifO (some true) x y = x := rfl
@[simp] theorem ifO_f {x y : Option α} : ifO (some false) x y = y := rfl
theorem ifO_s {x y : Option α} {c : Bool} : ifO (some c) x y = if c = true then x else y := rfl
@[simp] theorem andO_t {y : Option Bool} : andO (some true) y = y := rfl
@[simp] theorem andO_f {y : Option Bool} : andO (some false) y = some false := rfl
@[simp] theorem orO_t {y : Option Bool} : orO (some true) y = some true := rfl
@[simp] theorem orO_f {y : Option Bool} : orO (some false) y = y := rfl
theorem andO_s {x y : Bool} : andO (some x) (some y) = some (x && y) := by cases x <;> rfl
theorem orO_s {x y : Bool} : orO (some x) (some y) = some (x || y) := by cases x <;> rfl
@[simp] theorem notO_s {x : Bool} : notO (some x) = some (!x) := rfl
@[simp] theorem andV_t {y : Option U} : andV (some (.bl true)) y = y := rfl
@[simp] theorem andV_f {y : Option U} : andV (some (.bl false)) y = some (.bl false) := rfl
@[simp] theorem orV_t {y : Option U} : orV (some (.bl true)) y = some (.bl true) := rfl
@[simp] theorem orV_f {y : Option U} : orV (some (.bl false)) y = y := rfl
theorem andV_s {x y : Bool} : andV (some (.bl x)) (some (.bl y)) = some (.bl (x && y)) := by cases x <;> rfl
theorem orV_s {x y : Bool} : orV (some (.bl x)) (some (.bl y)) = some (.bl (x || y)) := by cases x <;> rfl
@[simp] theorem notV_s {x : Bool} : notV (some (.bl x)) = some (.bl (!x)) := rfl
theorem tupO_s (h : l.length ≤ lim) : tupO (some l) = some (.tup l) := by simp [tupO, h]
theorem lstO_s (h : l.length ≤ lim) : lstO (some l) = some (.lst l) := by simp [lstO, h]
@[simp] theorem tupO0 : tupO (some []) = some (.tup []) := rfl
@[simp] theorem tupO1 {x : U} : tupO (some [x]) = some (.tup [x]) := rfl
@[simp] theorem tupO2 {x y : U} : tupO (some [x, y]) = some (.tup [x, y]) := rfl
@[simp] theorem lstO0 : lstO (some []) = some (.lst []) := rfl
@[simp] theorem lstO1 {x : U} : lstO (some [x]) = some (.lst [x]) := rfl
@[simp] theorem lstO2 {x y : U} : lstO (some [x, y]) = some (.lst [x, y]) := rfl
@[simp] theorem slO_s {lo hi : Option Int} : slO (some a) (some lo) (some hi) = sliceV a lo hi := rfl
@[simp] theorem ptO_s {i : Int} : ptO (some (.int i)) = some (some i) := rfl
@[simp] theorem iterO_s {g : U → Option (List U)} : iterO g (some a) = g a := rfl
@[simp] theorem rngO_s {g : List U → Option (List U)} : rngO g (some l) = g l := rfl
@[simp] theorem compO_s {p : U → Option Bool} {g : U → Option U} : compO p g (some l) = lcO p g l := rfl
@[simp] theorem chainO_s {g g' : U → U → Option U} {c : U} {k : Bool} (h : g a b = some (.bl k)) : chainO g g' (some a) (some b) (some c) = if k = true then g' b c else some (.bl false) := by simp [chainO, h, U.asB]
@[simp] theorem addV_i {i j : Int} : addV (.int i) (.int j) = some (.int (i + j)) := rfl
@[simp] theorem subV_i {i j : Int} : subV (.int i) (.int j) = some (.int (i - j)) := rfl
@[simp] theorem ltV_i {i j : Int} : ltV (.int i) (.int j) = some (.bl (decide (i < j))) := rfl
@[simp] theorem leV_i {i j : Int} : leV (.int i) (.int j) = some (.bl (decide (i ≤ j))) := rfl
@[simp] theorem gtV_i {i j : Int} : gtV (.int i) (.int j) = some (.bl (decide (j < i))) := rfl
@[simp] theorem geV_i {i j : Int} : geV (.int i) (.int j) = some (.bl (decide (j ≤ i))) := rfl
@[simp] theorem negV_i {i : Int} : negV (.int i) = some (.int (-i)) := rfl
@[simp] theorem intV_i {i : Int} : c1 intV [.int i] = some (.int i) := rfl
@[simp] theorem absU_i {i : Int} : c1 absU [.int i] = some (.int (if i < 0 then -i else i)) := rfl
theorem mulV_r {i j : Int} (h : -(2 ^ 64) < j ∧ j < 2 ^ 64) : mulV (.int i) (.int j) = some (.int (i * j)) := by
  show (if (-(2 ^ 64) < i ∧ i < 2 ^ 64) ∨ (-(2 ^ 64) < j ∧ j < 2 ^ 64) then some (U.int (i * j)) else none) = _
  rw [if_pos (.inr h)]
theorem mulV_l {i j : Int} (h : -(2 ^ 64) < i ∧ i < 2 ^ 64) : mulV (.int i) (.int j) = some (.int (i * j)) := by
  show (if (-(2 ^ 64) < i ∧ i < 2 ^ 64) ∨ (-(2 ^ 64) < j ∧ j < 2 ^ 64) then some (U.int (i * j)) else none) = _
  rw [if_pos (.inl h)]
theorem modV_i {i j : Int} (h : 0 < j) : modV (.int i) (.int j) = some (.int (i % j)) := by
  show (if 0 < j then some (U.int (i % j)) else none) = _
  rw [if_pos h]
theorem fdivV_i {i j : Int} (h : 0 < j ∧ j < 1073741824) : fdivV (.int i) (.int j) = some (.int (i / j)) := by
  show (if 0 < j ∧ j < 1073741824 then some (U.int (i / j)) else none) = _
  rw [if_pos h]
theorem divmod_i {i j : Int} (h : 0 < j ∧ j < 1073741824) : divmodU [.int i, .int j] = some (.tup [.int (i / j), .int (i % j)]) := by
  show (if 0 < j ∧ j < 1073741824 then some (U.tup [.int (i / j), .int (i % j)]) else none) = _
  rw [if_pos h]
/-! the state -/
@[simp] theorem pureS_s {o : Option α} : pureS o us = o.map fun x => (x, us) := rfl
theorem bindS_s {F : SM α} {k : α → SM β} {x : α} {us1 : List U} (h : F us = some (x, us1)) : bindS F k us = k x us1 := by simp [bindS, h]
@[simp] theorem bindS_pure {x : α} {k : α → SM β} : bindS (pureS (some x)) k = k x := rfl
@[simp] theorem withK_s {κ : Type} {K : κ} {g : κ → α} : withK K g = g K := rfl
theorem ifS_s {c : SM Bool} {F G : SM α} {b : Bool} {us1 : List U} (h : c us = some (b, us1)) : ifS c F G us = if b = true then F us1 else G us1 := by
  simp only [ifS, bindS, h, Option.bind_some]
  cases b <;> rfl
theorem ifS_p {F G : SM α} {b : Bool} : ifS (pureS (some b)) F G us = if b = true then F us else G us := ifS_s rfl
theorem opS_s {F G : SM U} {us1 us2 : List U} {z : U} (h : F us = some (a, us1)) (h2 : G us1 = some (b, us2)) (h3 : f a b = some z) : opS f F G us = some (z, us2) := by
  simp [opS, bindS, h, h2, h3]
@[simp] theorem opS_p : opS f (pureS (some a)) (pureS (some b)) = pureS (f a b) := rfl
@[simp] theorem consS_p : consS (pureS (some a)) (pureS (some l)) = pureS (some (a :: l)) := rfl
@[simp] theorem callS_p {m : List U → Option U} : callS m (pureS (some l)) = pureS (m l) := rfl
@[simp] theorem testS_p : testS (pureS (some a)) = pureS a.asB := rfl
theorem consS_s {F : SM U} {G : SM (List U)} {us1 us2 : List U} (h : F us = some (a, us1)) (h2 : G us1 = some (l, us2)) : consS F G us = some (a :: l, us2) := by
  simp [consS, bindS, h, h2]
theorem lockO_s {j : Nat} {o : U → Option U} {u z : U} (h : us[j]? = some u) (hu : u.own = true) (ho : o u = some z) (hz : z.pl = true) : lockO j o us = some (z, us) := by
  simp [lockO, h, hu, ho, hz]
theorem lockT_s {j : Nat} {o : U → Option Bool} {u : U} {z : Bool} (h : us[j]? = some u) (hu : u.own = true) (ho : o u = some z) : lockT j o us = some (z, us) := by
  simp [lockT, h, hu, ho]
theorem callM_s {j : Nat} {m : U → List U → Option (U × U)} {xs : List U} {u r u' : U} (h : us[j]? = some u) (hu : u.own = true) (hm : m u xs = some (r, u')) : callM j m xs us = some (r, us.set j u') := by
  simp [callM, h, hu, hm]
end
theorem atI_nat' {α : Type} {xs : List α} {k : Nat} {x : α} (h : xs[k]? = some x) : atI xs (k : Int) = some x := by
  have hk : k < xs.length := (List.getElem?_eq_some_iff.mp h).1
  unfold atI ixN
  rw [if_pos (by omega), if_pos (by omega)]
  simpa using h
theorem atI_int {α : Type} {xs : List α} {i : Int} (h0 : 0 ≤ i) (h1 : i < xs.length) : ∃ x, atI xs i = some x ∧ xs[i.toNat]? = some x := by
  have hk : i.toNat < xs.length := by omega
  refine ⟨xs[i.toNat], ?_, by simp [hk]⟩
  unfold atI ixN
  rw [if_pos h0, if_pos h1]
  simp [hk]
theorem atI_neg1 {α : Type} {xs : List α} {x : α} : atI (xs ++ [x]) (-1) = some x := by
  unfold atI ixN
  rw [if_neg (by decide), if_pos (by simp; omega)]
  have : (-1 + ((xs ++ [x]).length : Int)).toNat = xs.length := by simp; omega
  rw [Option.bind_some, this]
  simp
def ct0 : CTab := ⟨fun i => i, 0⟩
theorem get0n {w0 : U} {rest : List U} : getV (.lst (w0 :: rest)) (.int 0) = some w0 := @get0 ct0 _ _
theorem cut1n {w0 : U} {rest : List U} : sliceV (.lst (w0 :: rest)) (some 1) none = some (.lst rest) := @cut1 ct0 _ _
/-! ### comprehensions, plainly -/
theorem lcL_mf {α : Type} {p : U → Option Bool} {f : U → Option U} {g : α → U} {q : α → Bool} {h : α → U} : ∀ (l : List α), (∀ a ∈ l, p (g a) = some (q a)) → (∀ a ∈ l, q a = true → f (g a) = some (h a)) → lcL p f (l.map g) = some ((l.filter q).map h)
  | [], _, _ => rfl
  | a :: l, hp, hf => by
    have ih := lcL_mf (p := p) (f := f) l (fun b hb => hp b (List.mem_cons_of_mem _ hb)) (fun b hb => hf b (List.mem_cons_of_mem _ hb))
    have h1 := hp a (List.mem_cons_self ..)
    rw [List.map_cons]
    unfold lcL
    rw [h1, Option.bind_some]
    cases hq : q a with
    | true =>
      rw [if_pos rfl, hf a (List.mem_cons_self ..) hq, Option.bind_some, ih, Option.map_some, List.filter_cons, hq]
      rfl
    | false =>
      rw [if_neg Bool.false_ne_true, ih, List.filter_cons, hq]
      rfl
theorem lcO_mf {α : Type} {p : U → Option Bool} {f : U → Option U} {g : α → U} {q : α → Bool} {h : α → U} (l : List α) (hl : l.length ≤ lim) (hp : ∀ a ∈ l, p (g a) = some (q a)) (hf : ∀ a ∈ l, q a = true → f (g a) = some (h a)) : lcO p f (l.map g) = some (.lst ((l.filter q).map h)) := by
  unfold lcO
  rw [if_pos (by rw [List.length_map]; exact hl), lcL_mf l hp hf]
  rfl
theorem lcO_map {α : Type} {f : U → Option U} {g : α → U} {h : α → U} (l : List α) (hl : l.length ≤ lim) (hf : ∀ a ∈ l, f (g a) = some (h a)) : lcO (fun _ => some true) f (l.map g) = some (.lst (l.map h)) := by
  have := lcO_mf (p := fun _ => some true) (q := fun _ => true) l hl (fun _ _ => rfl) (fun a ha _ => hf a ha)
  rwa [List.filter_eq_self.mpr (fun _ _ => rfl)] at this
theorem bools_map {α : Type} {p : α → Bool} : ∀ l : List α, bools (l.map fun a => U.bl (p a)) = some (l.map p)
  | [] => rfl
  | a :: l => by
    show (bools (l.map fun a => U.bl (p a))).map (fun r => p a :: r) = _
    rw [bools_map l]
    rfl
theorem all_map {α : Type} {p : α → Bool} (l : List α) : c1 allV [.lst (l.map fun a => U.bl (p a))] = some (.bl (l.all p)) := by
  show (bools _).map (fun bs => U.bl (bs.all id)) = _
  rw [bools_map, Option.map_some, List.all_map]
  rfl
theorem any_map {α : Type} {p : α → Bool} (l : List α) : c1 anyV [.lst (l.map fun a => U.bl (p a))] = some (.bl (l.any p)) := by
  show (bools _).map (fun bs => U.bl (bs.any id)) = _
  rw [bools_map, Option.map_some, List.any_map]
  rfl
theorem strsU_map : ∀ ss : List Str, strsU (ss.map U.str) = some ss
  | [] => rfl
  | s :: ss => by
    show (strsU (ss.map U.str)).map (fun r => s :: r) = _
    rw [strsU_map ss]
    rfl
theorem join_lst {a : Str} {ss : List Str} (h : (ss.map (·.length)).sum + ss.length * a.length ≤ 16777216) : joinV (.str a) (.lst (ss.map U.str)) = some (.str (Txt.join a ss)) := by
  show ((strsU (ss.map U.str)).bind fun ss => if (ss.map (·.length)).sum + ss.length * a.length ≤ 16777216 then some (U.str (Txt.join a ss)) else none) = _
  rw [strsU_map, Option.bind_some, if_pos h]
theorem joinL_length (S : List Nat) : ∀ ps : List (List Nat), (TL.joinL S ps).length ≤ (ps.map (·.length)).sum + ps.length * S.length
  | [] => by simp [TL.joinL]
  | [p] => by simp [TL.joinL]
  | p :: q :: r => by
    have ih := joinL_length S (q :: r)
    show (p ++ (S ++ TL.joinL S (q :: r))).length ≤ _
    simp only [List.length_append, List.map_cons, List.sum_cons, List.length_cons, Nat.add_mul, Nat.one_mul] at ih ⊢
    omega
theorem join_length (a : Str) (ss : List Str) : (Txt.join a ss).length ≤ (ss.map (·.length)).sum + ss.length * a.length := by
  have h := joinL_length (TL.tl a) (ss.map TL.tl)
  rw [TL.join_eq, TL.len_tl, TL.tl_join]
  simp only [List.map_map, List.length_map] at h
  have e : (ss.map ((fun x => x.length) ∘ TL.tl)) = ss.map (·.length) := by
    apply List.map_congr_left
    intro s _
    exact (TL.len_tl s).symm
  rw [e, ← TL.len_tl a] at h
  exact h
theorem mem_joinL {S : List Nat} {c : Nat} : ∀ {ps : List (List Nat)}, c ∈ TL.joinL S ps → c ∈ S ∨ ∃ p ∈ ps, c ∈ p
  | [], h => by cases h
  | [p], h => .inr ⟨p, List.mem_singleton.mpr rfl, h⟩
  | p :: q :: r, h => by
    have h : c ∈ p ++ (S ++ TL.joinL S (q :: r)) := h
    rcases List.mem_append.mp h with h | h
    · exact .inr ⟨p, List.mem_cons_self .., h⟩
    · rcases List.mem_append.mp h with h | h
      · exact .inl h
      · rcases mem_joinL h with h | ⟨x, hx, h⟩
        · exact .inl h
        · exact .inr ⟨x, List.mem_cons_of_mem _ hx, h⟩
end Dn
set_option Elab.async false
set_option linter.all false
set_option maxRecDepth 100000
set_option maxHeartbeats 2000000
namespace Hall
/-! ### the marriage theorem, over lists -/
section
variable {α β : Type} [DecidableEq α] [DecidableEq β]
theorem filter_or {p q : α → Bool} : ∀ l : List α, (l.filter fun a => p a || q a).length = (l.filter p).length + (l.filter fun a => !p a && q a).length
  | [] => rfl
  | a :: l => by
    have ih := filter_or (p := p) (q := q) l
    simp only [List.filter_cons]
    cases hp : p a <;> cases hq : q a <;> simp [ih] <;> omega
theorem filter_erase {p : β → Bool} {b : β} : ∀ {l : List β}, l.Nodup → (l.filter p).length ≤ ((l.filter fun x => decide (x ≠ b)).filter p).length + 1
  | [], _ => by simp
  | x :: l, nd => by
    rw [List.nodup_cons] at nd
    have ih := filter_erase (p := p) (b := b) nd.2
    by_cases e : x = b
    · subst e
      have h1 : l.filter (fun y => decide (y ≠ x)) = l := List.filter_eq_self.mpr fun y hy => by
        simp only [decide_eq_true_eq]
        exact fun z => nd.1 (z ▸ hy)
      simp only [List.filter_cons, ne_eq, not_true_eq_false, decide_false, Bool.false_eq_true, if_false]
      simp only [ne_eq] at h1
      rw [h1]
      split <;> simp
    · simp only [List.filter_cons, ne_eq, e, not_false_eq_true, decide_true, if_true]
      simp only [ne_eq] at ih
      split
      · simp only [List.length_cons]; omega
      · exact ih
/-- the neighbours -/
def nb (adj : α → β → Bool) (R : List β) (A : List α) (P : α → Bool) : List β := R.filter fun b => A.any fun a => P a && adj a b
def HallC (adj : α → β → Bool) (R : List β) (A : List α) : Prop := ∀ P : α → Bool, (A.filter P).length ≤ (nb adj R A P).length
theorem any_filter {p q : α → Bool} {l : List α} : (l.filter p).any q = l.any fun a => p a && q a := by
  induction l with
  | nil => rfl
  | cons a l ih =>
    simp only [List.filter_cons, List.any_cons]
    cases hp : p a <;> simp [ih]
theorem hall [Inhabited β] (adj : α → β → Bool) : ∀ (n : Nat) (A : List α) (R : List β), A.length ≤ n → A.Nodup → R.Nodup → HallC adj R A → ∃ f : α → β, (∀ a ∈ A, f a ∈ R ∧ adj a (f a) = true) ∧ ∀ a ∈ A, ∀ b ∈ A, f a = f b → a = b := by
  intro n
  induction n with
  | zero =>
    intro A R hn _ _ hc
    have : A = [] := List.length_eq_zero_iff.mp (by omega)
    subst this
    exact ⟨fun _ => default, fun a h => (by cases h), fun a h => (by cases h)⟩
  | succ n ih =>
    intro A R hn nd ndR hc
    cases A with
    | nil => exact ⟨fun _ => default, fun a h => (by cases h), fun a h => (by cases h)⟩
    | cons a A' =>
      by_cases hs : ∀ P : α → Bool, (a :: A').filter P ≠ [] → (∃ x ∈ a :: A', P x = false) → ((a :: A').filter P).length < (nb adj R (a :: A') P).length
      · have nd' := List.nodup_cons.mp nd
        obtain ⟨b, hbR, hab⟩ : ∃ b ∈ R, adj a b = true := by
          have h1 := hc fun x => decide (x = a)
          have h2 : 0 < ((a :: A').filter fun x => decide (x = a)).length := by
            simp [List.filter_cons]
          have h3 : 0 < (nb adj R (a :: A') fun x => decide (x = a)).length := by omega
          obtain ⟨b, hb⟩ := List.exists_mem_of_length_pos h3
          obtain ⟨hb1, hb2⟩ := List.mem_filter.mp hb
          obtain ⟨x, _, hx⟩ := List.any_eq_true.mp hb2
          rw [Bool.and_eq_true] at hx
          have : x = a := of_decide_eq_true hx.1
          subst this
          exact ⟨b, hb1, hx.2⟩
        have hc' : HallC adj (R.filter fun x => decide (x ≠ b)) A' := by
          intro P
          by_cases he : A'.filter P = []
          · rw [he]; simp
          · let P' : α → Bool := fun x => P x && decide (x ≠ a)
            have e0 : P' a = false := by simp [P']
            have e2 : ∀ x ∈ A', P' x = P x := fun x hx => by
              have hxa : x ≠ a := fun z => nd'.1 (z ▸ hx)
              simp [P', hxa]
            have e1 : (a :: A').filter P' = A'.filter P := by
              rw [List.filter_cons, e0, if_neg Bool.false_ne_true]
              exact List.filter_congr e2
            have h1 := hs P' (by rw [e1]; exact he) ⟨a, List.mem_cons_self .., e0⟩
            rw [e1] at h1
            have e3 : nb adj R (a :: A') P' = R.filter fun b => A'.any fun x => P x && adj x b := by
              unfold nb
              congr 1
              funext b
              rw [List.any_cons, e0, Bool.false_and, Bool.false_or]
              rw [Bool.eq_iff_iff, List.any_eq_true, List.any_eq_true]
              exact ⟨fun ⟨x, hx, h⟩ => ⟨x, hx, by rw [← e2 x hx]; exact h⟩, fun ⟨x, hx, h⟩ => ⟨x, hx, by rw [e2 x hx]; exact h⟩⟩
            rw [e3] at h1
            have h2 := filter_erase (p := fun b => A'.any fun x => P x && adj x b) (b := b) ndR
            show _ ≤ ((R.filter fun x => decide (x ≠ b)).filter fun b => A'.any fun x => P x && adj x b).length
            omega
        rw [List.length_cons] at hn
        obtain ⟨f, hf1, hf2⟩ := ih A' _ (by omega) nd'.2 (ndR.filter _) hc'
        have hfb : ∀ x ∈ A', f x ∈ R ∧ f x ≠ b := fun x hx => by
          have := List.mem_filter.mp (hf1 x hx).1
          exact ⟨this.1, of_decide_eq_true this.2⟩
        refine ⟨fun x => if x = a then b else f x, fun x hx => ?_, fun x hx y hy e => ?_⟩
        · by_cases hxa : x = a
          · subst hxa; simp only [if_true]; exact ⟨hbR, hab⟩
          · simp only [if_neg hxa]
            have hx' : x ∈ A' := (List.mem_cons.mp hx).resolve_left hxa
            exact ⟨(hfb x hx').1, (hf1 x hx').2⟩
        · by_cases hxa : x = a
          · by_cases hya : y = a
            · rw [hxa, hya]
            · simp only [if_pos hxa, if_neg hya] at e
              exact absurd e.symm (hfb y ((List.mem_cons.mp hy).resolve_left hya)).2
          · by_cases hya : y = a
            · simp only [if_neg hxa, if_pos hya] at e
              exact absurd e (hfb x ((List.mem_cons.mp hx).resolve_left hxa)).2
            · simp only [if_neg hxa, if_neg hya] at e
              exact hf2 x ((List.mem_cons.mp hx).resolve_left hxa) y ((List.mem_cons.mp hy).resolve_left hya) e
      · obtain ⟨P, hne, ⟨x0, hx0, hPx0⟩, htight⟩ : ∃ P : α → Bool, (a :: A').filter P ≠ [] ∧ (∃ x ∈ a :: A', P x = false) ∧ ¬ ((a :: A').filter P).length < (nb adj R (a :: A') P).length := by
          apply Classical.byContradiction
          intro hh
          apply hs
          intro P h1 h2
          apply Classical.byContradiction
          intro h3
          exact hh ⟨P, h1, h2, h3⟩
        generalize a :: A' = A at *
        have hA : (A.filter P).length + (A.filter fun x => !P x).length = A.length := by
          have h := filter_or (p := P) (q := fun _ => true) A
          simp only [Bool.or_true, Bool.and_true] at h
          rw [List.filter_eq_self.mpr (fun _ _ => rfl)] at h
          omega
        have h1 : 0 < (A.filter P).length := List.length_pos_iff.mpr hne
        have h2 : 0 < (A.filter fun x => !P x).length := List.length_pos_iff.mpr fun z => by
          have : x0 ∈ A.filter fun x => !P x := List.mem_filter.mpr ⟨hx0, by rw [hPx0]; rfl⟩
          rw [z] at this; cases this
        have c1 : HallC adj R (A.filter P) := by
          intro Q
          have h := hc fun x => P x && Q x
          have e1 : (A.filter P).filter Q = A.filter fun x => P x && Q x := by
            rw [List.filter_filter]
            congr 1
            funext x
            rw [Bool.and_comm]
          have e2 : nb adj R (A.filter P) Q = nb adj R A fun x => P x && Q x := by
            unfold nb
            congr 1
            funext b
            rw [any_filter]
            congr 1
            funext x
            rw [Bool.and_assoc]
          rw [e1, e2]
          exact h
        have c2 : HallC adj (R.filter fun b => !(A.any fun x => P x && adj x b)) (A.filter fun x => !P x) := by
          intro Q
          have h := hc fun x => P x || Q x
          have e1 := filter_or (p := P) (q := Q) A
          have e2 : (A.filter fun x => !P x).filter Q = A.filter fun x => !P x && Q x := by
            rw [List.filter_filter]
            congr 1
            funext x
            rw [Bool.and_comm]
          have e3 : (nb adj R A fun x => P x || Q x) = R.filter fun b => (A.any fun x => P x && adj x b) || (A.any fun x => (!P x && Q x) && adj x b) := by
            unfold nb
            congr 1
            funext b
            rw [Bool.eq_iff_iff]
            simp only [Bool.or_eq_true, List.any_eq_true, Bool.and_eq_true]
            constructor
            · rintro ⟨x, hx, h, h'⟩
              rcases h with h | h
              · exact .inl ⟨x, hx, h, h'⟩
              · cases hp : P x with
                | true => exact .inl ⟨x, hx, hp, h'⟩
                | false => exact .inr ⟨x, hx, ⟨by rw [hp]; rfl, h⟩, h'⟩
            · rintro (⟨x, hx, h, h'⟩ | ⟨x, hx, ⟨_, h⟩, h'⟩)
              · exact ⟨x, hx, .inl h, h'⟩
              · exact ⟨x, hx, .inr h, h'⟩
          have e4 := filter_or (p := fun b => A.any fun x => P x && adj x b) (q := fun b => A.any fun x => (!P x && Q x) && adj x b) R
          have e5 : nb adj (R.filter fun b => !(A.any fun x => P x && adj x b)) (A.filter fun x => !P x) Q = R.filter fun b => !(A.any fun x => P x && adj x b) && (A.any fun x => (!P x && Q x) && adj x b) := by
            unfold nb
            rw [List.filter_filter]
            congr 1
            funext b
            rw [any_filter, Bool.and_comm]
            congr 2
            funext x
            rw [Bool.and_assoc]
          rw [e2, e5]
          rw [e3] at h
          have e6 : (nb adj R A P).length = (R.filter fun b => A.any fun x => P x && adj x b).length := rfl
          omega
        obtain ⟨f1, a1, a2⟩ := ih (A.filter P) R (by omega) (nd.filter _) ndR c1
        obtain ⟨f2, b1, b2⟩ := ih (A.filter fun x => !P x) _ (by omega) (nd.filter _) (ndR.filter _) c2
        have in1 : ∀ x ∈ A, P x = true → x ∈ A.filter P := fun x hx h => List.mem_filter.mpr ⟨hx, h⟩
        have in2 : ∀ x ∈ A, P x = false → x ∈ A.filter fun x => !P x := fun x hx h => List.mem_filter.mpr ⟨hx, by rw [h]; rfl⟩
        have cross : ∀ x ∈ A, ∀ y ∈ A, P x = true → P y = false → f1 x ≠ f2 y := fun x hx y hy h h' e => by
          have q1 := a1 x (in1 x hx h)
          have q2 := (List.mem_filter.mp (b1 y (in2 y hy h')).1).2
          rw [← e] at q2
          have : (A.any fun z => P z && adj z (f1 x)) = true := List.any_eq_true.mpr ⟨x, hx, by rw [h, q1.2]; rfl⟩
          rw [this] at q2
          cases q2
        refine ⟨fun x => if P x = true then f1 x else f2 x, fun x hx => ?_, fun x hx y hy e => ?_⟩
        · cases hp : P x with
          | true =>
            simp only [hp, if_true]
            exact a1 x (in1 x hx hp)
          | false =>
            simp only [hp, Bool.false_eq_true, if_false]
            have := b1 x (in2 x hx hp)
            exact ⟨(List.mem_filter.mp this.1).1, this.2⟩
        · cases hp : P x with
          | true =>
            cases hq : P y with
            | true =>
              simp only [hp, hq, if_true] at e
              exact a2 x (in1 x hx hp) y (in1 y hy hq) e
            | false =>
              simp only [hp, hq, if_true, Bool.false_eq_true, if_false] at e
              exact absurd e (cross x hx y hy hp hq)
          | false =>
            cases hq : P y with
            | true =>
              simp only [hp, hq, if_true, Bool.false_eq_true, if_false] at e
              exact absurd e.symm (cross y hy x hx hq hp)
            | false =>
              simp only [hp, hq, Bool.false_eq_true, if_false] at e
              exact b2 x (in2 x hx hp) y (in2 y hy hq) e
end
/-! ### one of each -/
section
variable {α : Type} [DecidableEq α]
def pick : List (List α) → List α → Prop
  | [], [] => True
  | a :: as, x :: xs => x ∈ a ∧ pick as xs
  | _, _ => False
theorem pick_map {β : Type} {g : β → α} {h : β → List α} : ∀ {L : List β}, (∀ b ∈ L, g b ∈ h b) → pick (L.map h) (L.map g)
  | [], _ => trivial
  | b :: L, hb => ⟨hb b (List.mem_cons_self ..), pick_map fun x hx => hb x (List.mem_cons_of_mem _ hx)⟩
theorem pick_length : ∀ {as : List (List α)} {e : List α}, pick as e → e.length = as.length
  | [], [], _ => rfl
  | a :: as, x :: xs, h => by rw [List.length_cons, List.length_cons, pick_length h.2]
  | [], _ :: _, h => h.elim
  | _ :: _, [], h => h.elim
theorem filter_mono {β : Type} {p q : β → Bool} (h : ∀ x, p x = true → q x = true) : ∀ l : List β, (l.filter p).length ≤ (l.filter q).length
  | [] => Nat.le_refl _
  | x :: l => by
    have ih := filter_mono h l
    simp only [List.filter_cons]
    cases hp : p x with
    | true => rw [h x hp]; simpa using ih
    | false => cases q x <;> simp <;> omega
theorem cover_count : ∀ {as : List (List α)} {e : List α} {S : List α}, pick as e → S.Nodup → (∀ s ∈ S, s ∈ e) → S.length ≤ (as.filter fun l => S.any fun s => decide (s ∈ l)).length
  | [], [], S, _, _, hs => by
    cases S with
    | nil => simp
    | cons s S => exact absurd (hs s (List.mem_cons_self ..)) (by simp)
  | a :: as, x :: xs, S, hp, nd, hs => by
    by_cases hx : x ∈ S
    · have hS : ∀ s ∈ S.erase x, s ∈ xs := fun s h => by
        have h1 := List.mem_of_mem_erase h
        have h2 : s ≠ x := fun z => by
          subst z
          exact (List.Nodup.not_mem_erase nd) h
        exact (List.mem_cons.mp (hs s h1)).resolve_left h2
      have ih := cover_count hp.2 (nd.erase x) hS
      have hl : (S.erase x).length = S.length - 1 := List.length_erase_of_mem hx
      have hpos : 0 < S.length := List.length_pos_of_mem hx
      have hm := filter_mono (p := fun l => (S.erase x).any fun s => decide (s ∈ l)) (q := fun l => S.any fun s => decide (s ∈ l)) (fun l h => by
        obtain ⟨s, h1, h2⟩ := List.any_eq_true.mp h
        exact List.any_eq_true.mpr ⟨s, List.mem_of_mem_erase h1, h2⟩) as
      have ha : (S.any fun s => decide (s ∈ a)) = true := List.any_eq_true.mpr ⟨x, hx, by simpa using hp.1⟩
      rw [List.filter_cons, ha, if_pos rfl, List.length_cons]
      omega
    · have hS : ∀ s ∈ S, s ∈ xs := fun s h => (List.mem_cons.mp (hs s h)).resolve_left fun z => hx (z ▸ h)
      have ih := cover_count hp.2 nd hS
      rw [List.filter_cons]
      split
      · rw [List.length_cons]; omega
      · exact ih
  | [], _ :: _, _, h, _, _ => h.elim
  | _ :: _, [], _, h, _, _ => h.elim
theorem pick_cover [Inhabited α] {as : List (List α)} (hne : ∀ l ∈ as, l ≠ []) {A : List α} (nd : A.Nodup) : (∃ e, pick as e ∧ ∀ a ∈ A, a ∈ e) ↔ ∀ P : α → Bool, (A.filter P).length ≤ (as.filter fun l => A.any fun a => P a && decide (a ∈ l)).length := by
  constructor
  · rintro ⟨e, he, hc⟩ P
    have := cover_count he (nd.filter P) fun s hs => hc s (List.mem_filter.mp hs).1
    simp only [any_filter] at this
    exact this
  · intro h
    have hz : as.zipIdx.map Prod.fst = as := List.zipIdx_map_fst 0 as
    have hnd : as.zipIdx.Nodup := by
      have h1 : (as.zipIdx.map Prod.snd).Nodup := by
        rw [List.zipIdx_map_snd]
        exact List.nodup_range'
      exact List.Pairwise.of_map (f := Prod.snd) (S := (· ≠ ·)) (fun a b hab e => hab (by rw [e])) h1
    have hc : HallC (fun (a : α) (b : List α × Nat) => decide (a ∈ b.1)) as.zipIdx A := by
      intro P
      have h1 := h P
      have e : (nb (fun (a : α) (b : List α × Nat) => decide (a ∈ b.1)) as.zipIdx A P).length = (as.filter fun l => A.any fun a => P a && decide (a ∈ l)).length := by
        conv => rhs; rw [← hz]
        rw [List.filter_map, List.length_map]
        rfl
      rw [e]
      exact h1
    obtain ⟨f, f1, f2⟩ := hall (fun (a : α) (b : List α × Nat) => decide (a ∈ b.1)) A.length A as.zipIdx (Nat.le_refl _) nd hnd hc
    let g : List α × Nat → α := fun b => match A.find? fun a => decide (f a = b) with
      | some a => a
      | none => b.1.headD default
    refine ⟨as.zipIdx.map g, ?_, fun a ha => ?_⟩
    · have := pick_map (g := g) (h := Prod.fst) (L := as.zipIdx) fun b hb => by
        show (match A.find? fun a => decide (f a = b) with
          | some a => a
          | none => b.1.headD default) ∈ b.1
        split
        · rename_i a ea
          have h1 := List.find?_some ea
          have h2 := List.mem_of_find?_eq_some ea
          have h3 := (f1 a h2).2
          rw [of_decide_eq_true h1] at h3
          exact of_decide_eq_true h3
        · have hb1 : b.1 ∈ as := by rw [← hz]; exact List.mem_map.mpr ⟨b, hb, rfl⟩
          have := hne _ hb1
          cases hl : b.1 with
          | nil => exact absurd hl this
          | cons x r => exact List.mem_cons_self ..
      rw [hz] at this
      exact this
    · refine List.mem_map.mpr ⟨f a, (f1 a ha).1, ?_⟩
      show (match A.find? fun a' => decide (f a' = f a) with
          | some a => a
          | none => (f a).1.headD default) = a
      split
      · rename_i a' ea
        have h0 := List.find?_some ea
        have h1 : f a' = f a := of_decide_eq_true h0
        exact f2 a' (List.mem_of_find?_eq_some ea) a ha h1
      · rename_i ea
        have := List.find?_eq_none.mp ea a ha
        simp at this
end
end Hall
set_option Elab.async false
set_option linter.all false
set_option maxRecDepth 100000
set_option maxHeartbeats 2000000
namespace Dn
open PySem PySem.Spec PyProof.Rows L2 PySem.SeqAt
variable [CTab]
/-! ### list.count of a text in a list of texts -/
def eqs (k : Str) (v : Value) : Bool := match v with
  | .str n _ => n == k
  | _ => false
theorem eqs_count {k : Str} : ∀ {us : List Value} {ns : List Str}, StrsAre us ns → us.countP (eqs k) = ns.count k
  | _, _, .nil => rfl
  | _, _, .cons n t h => by
    have ih := eqs_count (k := k) h
    rw [List.countP_cons, List.count_cons, ih] <;> rfl
theorem eqs_at {k : Str} {t : Tok} {A : Around} {s : Shared} : ∀ {us : List Value} {ns : List Str}, StrsAre us ns → ∀ y ∈ us, EqAt A s y (.str k t) (eqs k y)
  | _, _, .nil => fun y hy => by cases hy
  | _, _, .cons n t' h => fun y hy => by
    rcases List.mem_cons.mp hy with e | e
    · rw [e]
      exact EqAt.str_str n t' k t
    · exact eqs_at h y e
def rCntS (K : PySem.W.Frag) : V → List V → Hp → VK → Prop := fun x xs H Q => ∃ (p : Addr) (ns : List Str) (k : Str), x = .ref p ∧ xs = [.str k] ∧ SqL K H p (ns.map V.str) ∧ Q (.int (ns.count k : Nat)) H
section
variable {X : Cx}
theorem mt_lcountS : MtR X "list.count" (rCntS X.K) := by
  intro pins s σ H x xs v us Q I rx rxs h
  obtain ⟨p, ns, k, rfl, rfl, hs, q⟩ := h
  cases rx
  obtain ⟨u, rfl, ru⟩ := rxs.one
  obtain ⟨t, rfl⟩ := ru
  obtain ⟨its, rv, ⟨⟨cls, dd, data, sl⟩, n, ho, hc, hdn, hd⟩, hlen⟩ := I.list hs
  simp only at hc hd
  subst hc hd
  have hi := strs_of_vals rv
  refine call_meets PySem.F.slot_list_count ⟨_, ho, rfl⟩ PySem.F.entry_list_count (PySem.F.args_list_count_2 _ _)
    (SeqAt.list_countAt p its.toArray n dd sl (.str k t) (eqs k)) ⟨ho, fun y hy => eqs_at hi y (by simpa using hy), ?_⟩
  have ec : its.toArray.toList.countP (eqs k) = ns.count k := eqs_count hi
  refine ⟨.int (ns.count k : Nat), H, I.tok _, ⟨s.toks, ?_⟩, q⟩
  show Value.int ((its.toArray.toList.countP (eqs k) : Nat) : Int) s.toks = Value.int ((ns.count k : Nat) : Int) s.toks
  rw [ec]
theorem pe_countK {K : PySem.W.Frag} {o e : Expr} {es : List Expr} {apos cpos : Pos} {to : TE} {t : TA} (hK : X.K = K) (ho : PE X o to) (ha : PA X (e :: es) t) (hbase : attributeBase o "count" X.env (eval o X.env) = eval o X.env := by rfl)
    (hfew : ((backTo cpos (starEach (e :: es) X.env)).all (fun x => !x.1) && (backToKw cpos (keywordEach [] X.env)).all (fun x => x.1.isSome)
      && decide ((e :: es).length + ([] : List Keyword).length + (if ([] : List Keyword).isEmpty then 0 else 1) < 30)) = true := by rfl)
    (hline : (apos.endLine == cpos.line) = true := by rfl) (hs : starEach (e :: es) X.env = (false, eval e X.env) :: starEach es X.env := by rfl) (hplain : (backTo cpos (starEach es X.env)).any (·.1) = false := by rfl) :
    PE X (.Call (.Attribute o "count" apos) (e :: es) [] cpos) (tBM K "list" (rCntS K) to t) := hK ▸ pe_bm PySem.F.plainAttrs_list PySem.F.slot_list_count PySem.F.type_list_count mt_lcountS ho ha hbase hfew hline hs hplain
end
def countV : U → U → Option U
  | .lst xs, .str y => (strsU xs).map fun ss => .int (ss.count y : Nat)
  | .frl xs, .str y => (strsU xs).map fun ss => .int (ss.count y : Nat)
  | _, _ => none
section
variable {K : PySem.W.Frag} {σ : L2.St} {B H : Hp} {ta tb : TE} {oa ob : Option U}
theorem eo_count (ha : EvO ta σ B H oa) (hb : EvO tb σ B H ob) : EvO (tBM K "list" (rCntS K) ta (tCons tb tNil)) σ B H (op2 countV oa ob) := fun z e B1 H1 g Q q => by
  obtain ⟨x, ex, e⟩ := bind_some e
  obtain ⟨y, ey, e⟩ := bind_some e
  refine ha x ex B1 H1 g _ fun v B2 H2 g2 r2 => ?_
  cases r2 with
  | @lst a xs vs h r =>
    cases y with
    | str y =>
      obtain ⟨ss, es, e⟩ := map_some (show (strsU xs).map _ = some z from e)
      subst e
      have := r.strs es; subst this
      refine ⟨.inl ⟨rfl, _, SqL.of (g2.bh _ _ h)⟩, hb _ ey B2 H2 (g.trans g2) _ fun w B3 H3 g3 r3 => ?_⟩
      cases r3
      exact ⟨a, ss, y, rfl, rfl, SqL.of (g3.bh _ _ (g3.b _ _ h)), q _ B3 H3 (g2.trans g3) (.int _)⟩
    | _ => cases e
  | @frl a xs vs o h r =>
    cases y with
    | str y =>
      obtain ⟨ss, es, e⟩ := map_some (show (strsU xs).map _ = some z from e)
      subst e
      have := r.strs es; subst this
      refine ⟨.inl ⟨rfl, _, .inl (.inr ⟨o, g2.bh _ _ h⟩)⟩, hb _ ey B2 H2 (g.trans g2) _ fun w B3 H3 g3 r3 => ?_⟩
      cases r3
      exact ⟨a, ss, y, rfl, rfl, .inl (.inr ⟨o, g3.bh _ _ (g3.b _ _ h)⟩), q _ B3 H3 (g2.trans g3) (.int _)⟩
    | _ => cases e
  | _ => cases e
end
end Dn
set_option Elab.async false
set_option linter.all false
set_option maxRecDepth 100000
set_option maxHeartbeats 2000000
namespace Dn
open PySem PySem.Spec PyProof.Rows L2 PySem.SeqAt
variable [CTab]
/-! ### t.index(x) of a tuple of any data -/
def hitU (y u : U) : Bool := eqO dep u y == some true
def rTIdx : V → List V → Hp → VK → Prop := fun x ws H Q => ∃ (xs : List U) (y : U) (v : V) (a : Addr) (od : Obj) (vs : List V), ws = [v] ∧ x = .ref a ∧ H a = some (.frz od (.tup vs)) ∧ Rps H xs vs ∧ Rp H y v ∧ inO dep y xs = some true ∧ Q (.int (xs.findIdx (hitU y) : Nat)) H
theorem inO_def {n : Nat} {x : U} : ∀ {xs : List U} {b : Bool}, inO n x xs = some b → ∀ u ∈ xs, ∃ c, eqO n u x = some c
  | [], _, _, u, hu => nomatch hu
  | y :: ys, b, h, u, hu => by
    obtain ⟨a, ea, h⟩ := bind_some h
    obtain ⟨c, ec, h⟩ := map_some h
    rcases List.mem_cons.mp hu with e | e
    · subst e; exact ⟨a, ea⟩
    · exact inO_def ec u e
theorem inO_true {n : Nat} {x : U} : ∀ {xs : List U}, inO n x xs = some true → ∃ u ∈ xs, eqO n u x = some true
  | [], h => nomatch h
  | y :: ys, h => by
    obtain ⟨a, ea, h⟩ := bind_some h
    obtain ⟨c, ec, h⟩ := map_some h
    cases a with
    | true => exact ⟨y, List.mem_cons_self .., ea⟩
    | false =>
      have : c = true := by simpa using h
      subst this
      obtain ⟨u, hu, e⟩ := inO_true ec
      exact ⟨u, List.mem_cons_of_mem _ hu, e⟩
theorem rps_at {H : Hp} : ∀ {xs : List U} {vs : List V} {its : List Value}, Rps H xs vs → Vals vs its → ∀ (j : Nat) (p : Value), its[j]? = some p → ∃ u v, xs[j]? = some u ∧ Rp H u v ∧ RelV v p
  | _, _, _, .nil, .nil, j, p, h => by simp at h
  | _, _, _, .cons r t, .cons rv tv, 0, p, h => by
    simp at h; subst h
    exact ⟨_, _, rfl, r, rv⟩
  | _, _, _, .cons r t, .cons rv tv, j + 1, p, h => by
    simp only [List.getElem?_cons_succ] at h
    obtain ⟨u, v, e, r1, r2⟩ := rps_at t tv j p h
    exact ⟨u, v, by simpa using e, r1, r2⟩
theorem rps_len {H : Hp} : ∀ {xs : List U} {vs : List V} {its : List Value}, Rps H xs vs → Vals vs its → its.length = xs.length
  | _, _, _, .nil, .nil => rfl
  | _, _, _, .cons r t, .cons rv tv => by simp [rps_len t tv]
section
variable {X : Cx}
theorem mt_tidx (hu : X.A.units + 64 < cLine) : MtR X "tuple.index" rTIdx := by
  intro pins s σ H x ws v us Q I rx rxs h
  obtain ⟨xs, y, w, a, od, vs, rfl, rfl, hT, r, hy, hb, q⟩ := h
  · cases rx
    obtain ⟨u, rfl, ru⟩ := rxs.one
    obtain ⟨its, rv, pl, _⟩ := I.tuple (.inl (.inr ⟨od, hT⟩))
    obtain ⟨⟨cls, dd, dt, sl⟩, ho, hc, n, hd⟩ := pl
    simp only at hc hd
    subst hc hd
    obtain ⟨i1, i2⟩ := inO_any r rv hb
    have hlen := rps_len r rv
    obtain ⟨z, hz, ez⟩ := inO_true hb
    have hj : xs.findIdx (hitU y) < xs.length := List.findIdx_lt_length_of_exists ⟨z, hz, by simp [hitU, ez]⟩
    have hj2 : xs.findIdx (hitU y) < its.toArray.size := by rw [List.size_toArray, hlen]; exact hj
    have at_ : ∀ (m : Nat) (hm : m < its.toArray.size), ∃ c, eqO dep (xs[m]'(by rw [← hlen]; simpa using hm)) y = some c ∧ eqOf H dep y its.toArray[m] = c := fun m hm => by
      have hm2 : m < its.length := by simpa using hm
      obtain ⟨u1, v1, e1, r1, r2⟩ := rps_at r rv m its[m] (List.getElem?_eq_getElem hm2)
      have hm3 : m < xs.length := by omega
      have e2 : xs[m] = u1 := by rw [List.getElem?_eq_getElem hm3] at e1; exact Option.some.inj e1
      obtain ⟨c, ec⟩ := inO_def hb u1 (e2 ▸ List.getElem_mem hm3)
      refine ⟨c, by rw [e2]; exact ec, ?_⟩
      show eqOf H dep y its[m] = c
      exact eqOf_is r1 r2 ec
    refine call_meets PySem.F.slot_tuple_index ⟨_, ho, rfl⟩ PySem.F.entry_tuple_index (PySem.F.args_tuple_index_2 _ _) (TI.tuple_indexAt a its.toArray n dd sl u (eqOf H dep y) (xs.findIdx (hitU y)) hj2 ?_ ?_)
      ⟨ho, fun p hp => ?_, ⟨.int (xs.findIdx (hitU y) : Nat), H, I.tok _, ⟨_, rfl⟩, q⟩⟩
    · obtain ⟨c, e1, e2⟩ := at_ _ hj2
      have : hitU y xs[xs.findIdx (hitU y)] = true := List.findIdx_getElem
      rw [hitU, e1] at this
      rw [e2]
      simpa using this
    · intro m hm hmj
      obtain ⟨c, e1, e2⟩ := at_ m hm
      have : hitU y (xs[m]'(by omega)) = false := List.not_of_lt_findIdx hmj
      rw [hitU, e1] at this
      rw [e2]
      simpa using this
    · obtain ⟨u1, v1, c, r1, rv1, e1, e2⟩ := i2 p (by simpa using hp)
      rw [e2]
      refine eq_at e1 r1 hy rv1 ru (eq_rc I dep e1 r1 hy rv1 ru ?_).1
      show X.A.units + 1 + dep < cLine
      unfold dep; omega
/-- a method of a tuple made by the program -/
def tTM (r : V → List V → Hp → VK → Prop) (to : TE) (t : TA) : TE := fun σ H Q => to σ H fun x H1 => (∃ (p : Addr) (od : Obj) (vs : List V), x = .ref p ∧ H1 p = some (.frz od (.tup vs)) ∧ od.dict = none) ∧ t σ H1 fun xs H2 => r x xs H2 Q
theorem pe_tm {name : Str} {id : String} {r : V → List V → Hp → VK → Prop} {o e : Expr} {es : List Expr} {apos cpos : Pos} {to : TE} {t : TA} (slot : Slot "tuple" name id) (hty : typeOf (.builtin id) = pure (.type "method_descriptor")) (hm : MtR X id r) (ho : PE X o to) (ha : PA X (e :: es) t) (hbase : attributeBase o name X.env (eval o X.env) = eval o X.env := by rfl)
    (hfew : ((backTo cpos (starEach (e :: es) X.env)).all (fun x => !x.1) && (backToKw cpos (keywordEach [] X.env)).all (fun x => x.1.isSome)
      && decide ((e :: es).length + ([] : List Keyword).length + (if ([] : List Keyword).isEmpty then 0 else 1) < 30)) = true := by rfl)
    (hline : (apos.endLine == cpos.line) = true := by rfl) (hs : starEach (e :: es) X.env = (false, eval e X.env) :: starEach es X.env := by rfl) (hplain : (backTo cpos (starEach es X.env)).any (·.1) = false := by rfl) :
    PE X (.Call (.Attribute o name apos) (e :: es) [] cpos) (tTM r to t) := by
  constructor
  intro pins s σ H Q I h
  refine wpAny_Call_method_late hbase hfew hline rfl (thn (ho.run pins s σ H _ I h) ?_)
  rintro v s1 ⟨x, H1, I1, r1, ⟨p, od, vs, rfl, hp, hdn⟩, q1⟩
  cases r1
  obtain ⟨h0, _, its, _, ob, h1, hc, _⟩ := I1.hok p _ hp
  obtain rfl : od = ob := Option.some.inj (h0.symm.trans h1)
  refine ⟨"tuple", id, PySem.F.plainAttrs_tuple, slot, hty, ⟨od, h0, hc⟩, fun a ea => ?_, ?_⟩
  · cases ea
    exact ⟨od, h0, hdn⟩
  · have hA := ha.run cpos pins s1 σ H1 _ I1 q1
    rw [hs] at hA ⊢
    refine Calls.callWith_builtin ?_ (Calls.evalArgs_plain ?_)
    · change (false || (backTo cpos (starEach es X.env)).any (·.1)) = false
      rw [hplain]; rfl
    · exact thn hA fun us s2 ⟨ws, H2, I2, r2, q2⟩ => hm pins s2 σ H2 (.ref p) ws _ us Q I2 rfl r2 q2
end
end Dn
set_option Elab.async false
set_option linter.all false
set_option maxRecDepth 100000
set_option maxHeartbeats 2000000
namespace Dn
open PySem PySem.Spec PyProof.Rows L2
/-! ### tuple(list), with what the new object is -/
def rTupF (K : PySem.W.Frag) : List V → Hp → VK → Prop := fun xs H Q => ∃ (p : Addr) (ys : List V), xs = [.ref p] ∧ SqL K H p ys ∧ ∀ (l : Addr) (od : Obj), H l = none → od.dict = none → Q (.ref l) (upd H l (.frz od (.tup ys)))
section
variable {X : Cx}
theorem call_tupF {K : PySem.W.Frag} (hK : X.K = K) : CallR X (.type "tuple") (rTupF K) := by
  subst hK
  intro pins s σ H ws us Q I r h
  obtain ⟨p, ys, rfl, hq, q⟩ := h
  obtain ⟨_, rfl, rx⟩ := vals1 r
  cases rx
  obtain ⟨its, rr, pl, hz⟩ := I.list hq
  have ln := rr.length
  refine call_tuple_list pl.isList (fun h2 keep => ?_) (by simp only [List.size_toArray]; omega)
  have J : Inv X pins σ H { s with heap := h2 } := I.kept (t' := s.toks) keep
  have fr : H h2.objs.size = none := J.hok.fresh (Nat.le_refl _)
  refine ⟨.ref h2.objs.size, upd H h2.objs.size (.frz { cls := .type "tuple", data := .seq its.toArray } (.tup ys)), ?_, rfl, q _ _ fr rfl⟩
  exact J.laid (t' := s.toks) (fun b o e => Heap.get?_push_of_some _ e) (Nat.le_refl _) ⟨Heap.get?_push_size _ rfl, hz, its, rr, IsTup.new _ _⟩
end
end Dn
set_option Elab.async false
set_option linter.all false
set_option maxRecDepth 100000
set_option maxHeartbeats 2000000
namespace Dn
open PySem PySem.Spec PyProof.Rows L2
variable [CTab]
/-! ### the readings of tuple(list) and of t.index(x), for a tuple that is known -/
def tidxV : U → U → Option U
  | .tpd xs, y => (inO dep y xs).bind fun b => if b = true then some (.int (xs.findIdx (hitU y) : Nat)) else none
  | _, _ => none
theorem eo_tidx {σ : L2.St} {B H : Hp} {ta tb : TE} {oa ob : Option U} (ha : EvO ta σ B H oa) (hb : EvO tb σ B H ob) : EvO (tTM rTIdx ta (tCons tb tNil)) σ B H (op2 tidxV oa ob) := fun z e B1 H1 g Q q => by
  obtain ⟨x, ex, e⟩ := bind_some e
  obtain ⟨y, ey, e⟩ := bind_some e
  refine ha x ex B1 H1 g _ fun v B2 H2 g2 r2 => ?_
  cases r2 with
  | @tpd a xs vs o h hd r =>
    obtain ⟨b, eb, e⟩ := bind_some (show (inO dep y xs).bind _ = some z from e)
    split at e
    · rename_i hb1
      cases e
      subst hb1
      refine ⟨⟨a, o, vs, rfl, g2.bh _ _ h, hd⟩, hb _ ey B2 H2 (g.trans g2) _ fun w B3 H3 g3 r3 => ?_⟩
      exact ⟨xs, y, w, a, o, vs, rfl, rfl, g3.bh _ _ (g3.b _ _ h), (r.up g3).in g3.bh, r3.in g3.bh, eb, q _ B3 H3 (g2.trans g3) (.int _)⟩
    · cases e
  | _ => cases e
end Dn
set_option Elab.async false
set_option linter.all false
set_option maxRecDepth 100000
set_option maxHeartbeats 2000000
namespace Dn
open PySem PySem.Spec PyProof.Rows L2
/-! ### tuple(d.items()) of a locked dict -/
section
variable {prog : Program} {w : World} {A : Around} {E : Value → Shared → Prop} {s : Shared} {K : Type} [DecidableEq K] {knd : KeyKind prog w K} {kvs : List (K × Value)} {r d : Addr} {ep : Nat}
theorem code_tuple_new_items {Q₁ : Value → Shared → Prop} (hh : A.handled = none) (hv : s.heap.IsItemsView r d) (hm : s.heap.DictAt knd d kvs ep) (hn : kvs.length ≤ sizeLine)
    (h : ∀ (h' : Heap) (tk : Nat) (as : List Addr), (∀ b o, s.heap.get? b = some o → h'.get? b = some o) → as.length = kvs.length → PySem.W.KdxG knd kvs s.heap.objs.size h' as →
      Q₁ (.ref h'.objs.size) { s with heap := h'.push { cls := .type "tuple", data := .seq (as.map Value.ref).toArray }, toks := tk }) :
    codeAny (model prog w) A (.call (.builtin "tuple.__new__") ⟨[.type "tuple", .ref r], []⟩) (wants Q₁ E) s := by
  refine codeAny_of_tree ?_
  show wpAny _ A.in1 (do checkBuiltinCall "tuple.__new__" ⟨[.type "tuple", .ref r], []⟩; again (.builtin "tuple.__new__" ⟨[.type "tuple", .ref r], []⟩)) _ _ s
  refine wpAny_bind (wpAny_of_eq (F.newCall_tuple_1 _) (wpAny_pure ⟨plainId_quiet F.plain_tuple_new _, codeAny_builtin F.entry_tuple_new ?_⟩))
  rw [Around.under_plainId F.plain_tuple_new _]
  have hsub := sub_tuple_self
  have hinit := init_tuple_lookup
  have hmh := madeHere_tuple
  have hTI : s.TypeIs (.ref r) "dict_items" := by
    obtain ⟨o, ho, hc, _⟩ := hv
    exact ⟨o, ho, hc⟩
  have hh1 : A.in1.handled = none := hh
  wp_walk using wpAny_typeOf hTI, PySem.W.kdx_collect (A := A.in1) hh1 hv hm hn
  intro h' tk as hk hl hG
  show wpAny _ _ (Builtin.Tuple.tupleExact (as.map Value.ref).toArray >>= fun v => ret v) _ _ _
  unfold Builtin.Tuple.tupleExact
  refine wpAny_bind (wpAny_newObj_type ?_ (by show (as.map Value.ref).toArray.size ≤ sizeLine; simp only [List.size_toArray, List.length_map]; omega))
  refine wpAny_pure ?_
  exact h h' tk as hk hl hG
theorem call_tuple_items {Q : Value → Shared → Prop} (hh : A.handled = none) (hv : s.heap.IsItemsView r d) (hm : s.heap.DictAt knd d kvs ep) (hn : kvs.length ≤ sizeLine)
    (hQ : ∀ (h' : Heap) (tk : Nat) (as : List Addr), (∀ b o, s.heap.get? b = some o → h'.get? b = some o) → as.length = kvs.length → PySem.W.KdxG knd kvs s.heap.objs.size h' as →
      Q (.ref h'.objs.size) { s with heap := h'.push { cls := .type "tuple", data := .seq (as.map Value.ref).toArray }, toks := tk }) :
    wpAny (model prog w) A (call (.type "tuple") [.ref r]) Q E s := by
  refine callType_codes (Q₁ := fun obj s₁ => s₁.TypeIs obj "tuple" ∧ Q obj s₁) F.called_tuple (F.typeCall_tuple_1 _) F.entry_object_init
    (code_tuple_new_items (A := A.in1) hh hv hm hn fun h' tk acc hk hl hG => ⟨⟨_, Heap.get?_push_size _ rfl, rfl⟩, hQ h' tk acc hk hl hG⟩) fun obj s₁ h₁ => ?_
  exact ⟨h₁.1, F.args_object_init_2 obj _, object_init_meets F.called_tuple.init.lookup F.called_tuple.made (by decide) prog w A.in1 _ s₁ ⟨h₁.1, rfl, h₁.2⟩⟩
end
section
variable {X : Cx} {e : Expr} {te : TE} {p apos cpos pos : Pos}
theorem pairs_laid {pins : List (Addr × Obj)} {σ : L2.St} {H : Hp} {s : Shared} {h' : Heap} {tk : Nat} {kvs : List (Key × V)} {vs : List (Key × Value)} {lo : Nat} {as : List Addr} (I : Inv X pins σ H s) (kv : KV kvs vs)
    (hlo : s.heap.objs.size ≤ lo) (hk : ∀ b o, s.heap.get? b = some o → h'.get? b = some o) (hl : as.length = vs.length) (hG : PySem.W.KdxG (mixKind X.prog X.w) vs lo h' as) :
    (∀ b o, H b = some o → LiI.putT H as kvs b = some o) ∧ (∀ t ∈ as, H t = none) ∧ Paired (fun (t : Addr) (q : Key × V) => LiI.putT H as kvs t = some (.tup [kV q.1, q.2])) as kvs ∧ Inv X pins σ (LiI.putT H as kvs) { s with heap := h', toks := tk } := by
  have lk : kvs.length = vs.length := Paired.length kv
  have nd : as.Nodup := List.Pairwise.imp (fun {a b} (h : a < b) => Nat.ne_of_lt h) hG.rise
  have ab : ∀ t ∈ as, s.heap.objs.size ≤ t := fun t ht => Nat.le_trans hlo (Nat.le_of_lt (hG.above t ht))
  have new : ∀ t ∈ as, H t = none := fun t ht => I.hok.fresh (ab t ht)
  have atP := LiI.putT_at as kvs H (by omega) nd
  have low : ∀ b o, s.heap.get? b = some o → b ∉ as := fun b o e z => absurd (Heap.lt_size e) (Nat.not_lt.mpr (ab b z))
  have kp : ∀ b u, H b = some u → (LiI.putT H as kvs) b = some u := fun b u e => by
    rw [LiI.putT_off as kvs _ (fun z => by rw [new b z] at e; cases e)]
    exact e
  refine ⟨kp, new, atP, ?_⟩
  refine I.call' (ch := []) rfl ⟨fun b o q _ _ _ => hk b o q, fun b o q _ _ _ => ⟨o.slots, hk b o q⟩, fun b o q n _ => ?_, fun b o q _ => ⟨o, hk b o q⟩, fun b xs q => kp b _ q, fun b o u q => kp b _ q, fun b ps q => ⟨#[], by rw [kp b _ q]; simp⟩⟩ (fun b u q => ?_) I.bare fun b z => by simp at z
  · rw [LiI.putT_off as kvs _ (low b o q)]
    exact n
  · by_cases hb : b ∈ as
    · obtain ⟨j, pk, e1, e2, e3⟩ := LiI.paired_ix atP hb
      rw [e3] at q
      cases q
      obtain ⟨key, k, x, f1, f2, f3⟩ := hG.pairs j b e1
      obtain ⟨qv, g1, g2, g3⟩ := LiI.paired_get kv e2
      rw [f1] at g1
      cases g1
      have rk : RelV (kV pk.1) key := by
        rw [g2]
        exact relV_key (show keyIs k key = true from f2)
      exact ⟨by show 2 ≤ sizeLine; decide, [key, x], .cons rk (.cons g3 .nil), ⟨_, f3, rfl, _, rfl⟩⟩
    · rw [LiI.putT_off as kvs _ hb] at q
      exact (I.hok b u q).stay (fun d v _ y => hk d v y) (fun d y => kp d _ y) fun d xs y => kp d _ y
def rItemsT2 : V → Hp → VK → Prop := fun x H Q => ∃ (d : Addr) (o : Obj) (kvs : List (Key × V)), x = .ref d ∧ H d = some (.frz o (.dK kvs)) ∧
  ∀ (H' : Hp) (p : Addr) (ts : List Addr), (∀ b o, H b = some o → H' b = some o) → H p = none → (∀ t ∈ ts, H t = none) → p ∉ ts → H' p = some (.tup (ts.map V.ref)) → Paired (fun (t : Addr) (q : Key × V) => H' t = some (.tup [kV q.1, q.2])) ts kvs → Q (.ref p) H'
def tTupItems (te : TE) : TE := fun σ H Q => te σ H fun x H1 => rItemsT2 x H1 Q
theorem pe_tupItems (hc : X.calm = true) (he : PE X e te) (hg : Gl X "tuple") (hm : X.mg "tuple" = none) (hv : bootBuiltins "tuple" = some (.type "tuple")) (hbase : attributeBase e "items" X.env (eval e X.env) = eval e X.env := by rfl) (hline : (apos.endLine == cpos.line) = true := by rfl)
    (hs : starEach [.Call (.Attribute e "items" apos) [] [] cpos] X.env = (false, eval (.Call (.Attribute e "items" apos) [] [] cpos) X.env) :: starEach [] X.env := by rfl) :
    PE X (.Call (.Name "tuple" p) [.Call (.Attribute e "items" apos) [] [] cpos] [] pos) (tTupItems te) := by
  refine ⟨fun pins s σ H Q I hq => ?_⟩
  refine wpAny_Call_Name_kw (ld_blt I hg hm hv ?_)
  refine PyProof.Rows.callWith_type1 ?_ hs rfl
  rw [hs]
  show wpAny _ _ (spliced ((false, eval (.Call (.Attribute e "items" apos) [] [] cpos) X.env) :: backTo pos (starEach [] X.env))) _ _ s
  refine Calls.spliced_cons ?_
  refine wpAny_Call_method (T := "dict") (id := "dict.items") hbase rfl hline F.plainAttrs_dict F.slot_dict_items F.type_dict_items (thn (he.run pins s σ H _ I hq) fun u s1 ⟨x, H1, I1, rx, d, o, kvs, ex, hd, q⟩ => ?_)
  subst ex
  obtain rfl : u = Value.ref d := rx
  obtain ⟨hs0, hgd, hx, es, ep, vs, hdt, hsz, kv, hat⟩ := I1.frzK hd
  have hdo := hat.dictOf
  have hz : kvs.length ≤ sizeLine := by
    obtain ⟨_, z, _⟩ := I1.hok d _ hd
    exact z
  have lk : kvs.length = vs.length := Paired.length kv
  have I2 : Inv X pins σ H1 { s1 with heap := s1.heap.push { cls := .type "dict_items", data := .fields #[.ref d] } } := I1.kept (t' := s1.toks) fun b ob q => Heap.get?_push_of_some _ q
  refine ⟨hdo.typeIs, hdo.mapOf.noDict, ?_⟩
  show wpAny _ _ (callWith cpos (.builtin "dict.items") [.ref d] [] []) _ X.xe s1
  refine method_meetsIn F.slot_dict_items F.entry_dict_items rfl (PySem.evalArgs_none ⟨rfl, hdo.typeIs, F.args_dict_items_1 _, _, meets_dict_items (mixKind X.prog X.w) d hs0, ⟨vs, hdo⟩, ?_⟩)
  refine Calls.spliced_nil ?_
  refine call_tuple_items (knd := mixKind X.prog X.w) (kvs := vs) (ep := ep) (I1.ok.hd hc) ⟨_, Heap.get?_push_size _ rfl, rfl, rfl⟩ (hat.push _) (by omega) fun h' tk as hk hl hG => ?_
  obtain ⟨k1, k2, k3, J⟩ := pairs_laid (tk := tk) I2 kv (Nat.le_refl _) hk hl hG
  have fr : LiI.putT H1 as kvs h'.objs.size = none := J.hok.fresh (Nat.le_refl _)
  have hp : h'.objs.size ∉ as := fun z => Nat.lt_irrefl _ (hG.there z)
  have frH : H1 h'.objs.size = none := by rw [← LiI.putT_off as kvs H1 hp]; exact fr
  have J2 : Inv X pins σ (upd (LiI.putT H1 as kvs) h'.objs.size (.tup (as.map V.ref))) { s1 with heap := h'.push { cls := .type "tuple", data := .seq (as.map Value.ref).toArray }, toks := tk } :=
    J.laid (t' := tk) (fun b o e => Heap.get?_push_of_some _ e) (Nat.le_refl _) (show ObjOk X.prog X.w _ _ _ (.tup (as.map V.ref)) from ⟨by rw [List.length_map]; omega, as.map Value.ref, LiI.vals_refs as, IsTup.new _ _⟩)
  refine ⟨.ref h'.objs.size, _, J2, rfl, q _ _ as (fun b o e => ?_) frH k2 hp upd_same ?_⟩
  · rw [upd_ne (fun z => by rw [z, frH] at e; cases e)]; exact k1 b o e
  · have : ∀ {ts : List Addr} {qs : List (Key × V)}, (∀ t ∈ ts, t ≠ h'.objs.size) → Paired (fun (t : Addr) (q : Key × V) => LiI.putT H1 as kvs t = some (.tup [kV q.1, q.2])) ts qs → Paired (fun (t : Addr) (q : Key × V) => upd (LiI.putT H1 as kvs) h'.objs.size (.tup (as.map V.ref)) t = some (.tup [kV q.1, q.2])) ts qs := by
      intro ts qs hne P
      induction P with
      | nil => exact .nil
      | cons h t ih => exact .cons (by rw [upd_ne (hne _ (List.mem_cons_self ..))]; exact h) (ih fun t ht => hne t (List.mem_cons_of_mem _ ht))
    exact this (fun t ht z => hp (z ▸ ht)) k3
end
variable [CTab]
def itemsV : U → Option U
  | .dic kvs => some (.tup (kvs.map fun kv => .tup [kU kv.1, kv.2]))
  | _ => none
theorem rps_pairs {B2 : Hp} : ∀ {kvs : List (Key × U)} {es : List (Key × V)} {ts : List Addr}, Rpk B2 kvs es → Paired (fun (t : Addr) (q : Key × V) => B2 t = some (.tup [kV q.1, q.2])) ts es → Rps B2 (kvs.map fun kv => U.tup [kU kv.1, kv.2]) (ts.map V.ref)
  | _, _, _, .nil, .nil => .nil
  | _, _, _, .cons r t, .cons h q => .cons (.tup h (.cons (rp_key _) (.cons r .nil))) (rps_pairs t q)
theorem eo_tupItems {σ : L2.St} {B H : Hp} {te : TE} {oa : Option U} (ha : EvO te σ B H oa) : EvO (tTupItems te) σ B H (oa.bind itemsV) := fun z e B1 H1 g Q q => by
  obtain ⟨x, ex, e⟩ := bind_some e
  refine ha x ex B1 H1 g _ fun v B2 H2 g2 r2 => ?_
  cases r2 with
  | @dic a kvs es o h r =>
    cases e
    refine ⟨a, o, es, rfl, g2.bh _ _ h, fun H' p ts hk hp hts hpt hH hP => ?_⟩
    have gn : Go B2 H2 (lay (p :: ts) H' B2) H' := by
      refine ⟨hk, fun b u e => ?_, fun b u e => ?_, fun b u e => ?_⟩
      · rw [lay_out (fun z => by
          have : H2 b = none := by
            rcases List.mem_cons.mp z with z | z
            · rw [z]; exact hp
            · exact hts b z
          rw [g2.bh b u e] at this; cases this)]
        exact e
      · by_cases hb : b ∈ p :: ts
        · rw [lay_in hb] at e; exact e
        · rw [lay_out hb] at e; exact hk _ _ (g2.bh _ _ e)
      · by_cases hb : b ∈ p :: ts
        · right
          rcases List.mem_cons.mp hb with z | z
          · rw [z]; exact hp
          · exact hts b z
        · rw [lay_out hb] at e; exact .inl e
    refine q _ _ _ (g2.trans gn) (.tup (by rw [lay_in (List.mem_cons_self ..)]; exact hH) ?_)
    refine rps_pairs (r.kp (Kp.of gn.b)) ?_
    have : ∀ {as : List Addr} {qs : List (Key × V)}, (∀ t ∈ as, t ∈ p :: ts) → Paired (fun (t : Addr) (q : Key × V) => H' t = some (.tup [kV q.1, q.2])) as qs → Paired (fun (t : Addr) (q : Key × V) => lay (p :: ts) H' B2 t = some (.tup [kV q.1, q.2])) as qs := by
      intro as qs hne P
      induction P with
      | nil => exact .nil
      | cons h t ih => exact .cons (by rw [lay_in (hne _ (List.mem_cons_self ..))]; exact h) (ih fun t ht => hne t (List.mem_cons_of_mem _ ht))
    exact this (fun t ht => List.mem_cons_of_mem _ ht) hP
  | _ => cases e
end Dn
set_option Elab.async false
set_option linter.all false
set_option maxRecDepth 100000
set_option maxHeartbeats 2000000
namespace Dn
open PySem PySem.Spec PyProof.Rows L2
/-! ### ==, !=, str, repr, bool of an instance whose class has its own defs for them -/
section
variable {prog : Program} {w : World} {A : Around} {E : Value → Shared → Prop} {s : Shared} {K : PySem.W.Frag} {x C L f : Addr} {h₀ : Heap} {m : Str → Option Value} {ox : Obj} {od : Option Obj} {b tb : Value}
open PySem.W PySem.Builtin in
theorem ne_K {Q : Value → Shared → Prop} (hu : A.units + 1 < cLine) (X : K.In s.heap) (I : InstAt s.heap x ox C od) (hb : Looks (model prog w) s.heap (typeOf b) tb) (hn : notFirst K C tb = true)
    (hne : findIn K (.ref C) "__ne__" = some (some (.builtin "object.__ne__"))) (hob : mroIn K C (.type "object") = some true)
    (hs : findIn K (.ref C) "__eq__" = some (some (.ref f))) (hf : isFn K (.ref f) = true)
    (h : wpAny (model prog w) A.in1 (call (.ref f) [.ref x, b]) (fun v s' => ∃ r, v = .bool r ∧ Q (.bool (!r)) s') E s) : wpAny (model prog w) A (richCompare .NotEq (.ref x) b) Q E s := by
  have inst : Looks (model prog w) s.heap (isInstance (.ref x) (.type "object")) true := I.type.andThen (looks_mroIn X hob)
  have entry : wpAny (model prog w) A.in1 (Builtin.«object.__ne__» ⟨[.ref x, b], []⟩) (GQ.FinOf prog w A (wants (fun v s' => v ≠ .notImplemented ∧ Q v s') E)) (fun e s' => wants (fun v s' => v ≠ .notImplemented ∧ Q v s') E (.error e) s') s := by
    unfold Builtin.«object.__ne__»
    repeat (first
      | with_reducible refine wpAny_cRoomFor hu ?_
      | (refine wpAny_bind (m := callSpecialIfBound? (.ref x) (Str.ofString "__eq__") [b])
          (ifBound_K X I hs hf (wpAny_mono h (fun r s' hr => by
            obtain ⟨b, rfl, hq⟩ := hr
            have hq2 : (Value.bool (!b)) ≠ .notImplemented ∧ Q (.bool (!b)) s' := ⟨(fun z => nomatch z), hq⟩
            repeat (first | exact hq2 | exact wpAny_pure hq2 | exact wpAny_truthy_bool hq2 | (refine wpAny_bind (m := truthy (.bool _)) (wpAny_truthy_bool ?_)) | wp_step)) fun _ _ e => e)))
      | wp_step)
  have one : wpAny (model prog w) A (tryCompare (.ref x) "__ne__" b) (fun r s' => ∃ v, r = some v ∧ Q v s') E s := by
    have bnd : wpAny (model prog w) A (callSpecialIfBound? (.ref x) "__ne__" [b]) (fun r s' => ∃ v, r = some v ∧ v ≠ .notImplemented ∧ Q v s') E s := by
      simp only [callSpecialIfBound?, bindSpecialIfBound?]
      refine wpAny_holding (wpAny_bind (wpAny_bind (wpAny_bind (I.type.here ((looks_findIn X hne).here ?_)))))
      simp only [PySem.F.cmp_object.ne.bind]
      refine wpAny_bind (wpAny_askSetting (wpAny_ite ?_))
      have cl : wpAny (model prog w) A (call (.builtin "object.__ne__") [.ref x, b]) (fun v s' => v ≠ .notImplemented ∧ Q v s') E s :=
        wpAny_call (codeAny_call_builtin PySem.F.cmp_object.ne.plain PySem.F.cmpEntry_ne (check_slot PySem.F.cmpKind_ne PySem.F.cmpSplit_ne inst (PySem.F.cmpArgs_ne _ _) entry))
      have fin : wpAny (model prog w) A (call (.builtin "object.__ne__") ([.ref x] ++ [b]) >>= fun v => pure (some v)) (fun r s' => ∃ v, r = some v ∧ v ≠ .notImplemented ∧ Q v s') E s :=
        wpAny_bind (wpAny_mono cl (fun v s' h' => wpAny_pure ⟨v, rfl, h'⟩) fun _ _ h' => h')
      split
      · exact wpAny_bind (wpAny_pure (wpAny_pure fin))
      · exact wpAny_tryCatch (wpAny_bind (wpAny_pure (wpAny_pure fin)))
    unfold tryCompare
    refine wpAny_bind (wpAny_mono bnd (fun r s' hr => ?_) fun _ _ e => e)
    obtain ⟨v, rfl, hv, hq⟩ := hr
    cases v <;> first | exact absurd rfl hv | exact wpAny_pure ⟨_, rfl, hq⟩
  unfold richCompare
  simp only [oneThing_ref]
  refine wpAny_holding (wpAny_bind (wpAny_cRoomFor (Nat.lt_of_succ_lt hu) ?_))
  refine wpAny_bind (I.type.here (wpAny_bind (hb.here ?_)))
  split
  · rename_i q
    have e : subIn K tb (.ref C) = some false := by
      rcases Bool.or_eq_true_iff.mp hn with e | e
      · rw [beq_iff_eq.mp e] at q; simp at q
      · exact beq_iff_eq.mp e
    refine wpAny_bind ((looks_subIn X e).here ?_)
    simp only [Bool.false_eq_true, if_false]
    refine wpAny_bind (wpAny_mono one (fun r s' z => ?_) fun _ _ e => e)
    obtain ⟨v, rfl, hq⟩ := z
    exact wpAny_pure hq
  · refine wpAny_bind (wpAny_pure ?_)
    simp only [Bool.false_eq_true, if_false]
    refine wpAny_bind (wpAny_mono one (fun r s' z => ?_) fun _ _ e => e)
    obtain ⟨v, rfl, hq⟩ := z
    exact wpAny_pure hq
end
/-- what the heap part tells of a class with its own ==, str, repr -/
structure OwnC (K : PySem.W.Frag) (C : Addr) : Prop where
  cls : Cls K C
  ha : PySem.W.findIn K (.ref C) "__class__" = some (some (.builtin "object.__class__"))
  hn : PySem.W.specialIn K (.builtin "object.__class__") "__get__" = some (some (.builtin "getset_descriptor.__get__"))
  htk : PySem.W.takesIn K (.builtin "object.__class__") = some true
  hm : PySem.W.mroIn K C (.type "object") = some true
  ne : PySem.W.findIn K (.ref C) "__ne__" = some (some (.builtin "object.__ne__"))
  bo : PySem.W.findIn K (.ref C) "__bool__" = some none
  le : PySem.W.findIn K (.ref C) "__len__" = some none
  tt : PySem.W.typeIn K (.ref C) = some (.type "type")
theorem OwnC.cl {K : PySem.W.Frag} {C : Addr} (o : OwnC K C) : ((PySem.W.clsIn K C).isSome && PySem.W.typeIn K (.ref C) == some (.type "type")) = true := by
  obtain ⟨cd, hc, _⟩ := PySem.W.any_some o.cls.hd
  rw [hc, o.tt]
  rfl
/-- the types that may stand on the right -/
def baseTy (t : String) : Prop := t ∈ ["NoneType", "bool", "int", "str", "list", "tuple", "dict"]
theorem sub_base (K : PySem.W.Frag) (C : Addr) {t : String} (h : baseTy t) : PySem.W.subIn K (.type t) (.ref C) = some false := by
  simp only [baseTy, List.mem_cons, List.not_mem_nil, or_false] at h
  rcases h with rfl | rfl | rfl | rfl | rfl | rfl | rfl <;> rfl
section
variable {K : PySem.W.Frag} {H : Hp} {C : Addr}
inductive TyR (K : PySem.W.Frag) (H : Hp) (C : Addr) : V → Value → Prop
  | base {v : V} {t : String} : TyX K H v (.type t) → baseTy t → TyR K H C v (.type t)
  | own {v : V} : TyX K H v (.ref C) → TyR K H C v (.ref C)
theorem TyR.tyx {v : V} {t : Value} (h : TyR K H C v t) : TyX K H v t := by
  cases h with
  | base h _ => exact h
  | own h => exact h
theorem TyR.first {v : V} {t : Value} (h : TyR K H C v t) : PySem.W.notFirst K C t = true := by
  unfold PySem.W.notFirst
  cases h with
  | base h b => rw [sub_base K C b]; simp
  | own h => simp
theorem TyR.kit {v : V} {t : Value} (o : OwnC K C) (h : TyR K H C v t) : PySem.W.kitOne K t (.ref C) = some (t == .ref C) := by
  unfold PySem.W.kitOne PySem.W.kitCls
  cases h with
  | @base t h b =>
    have e : (Value.type t == Value.ref C) = false := Bool.eq_false_iff.mpr fun q => by cases beq_iff_eq.mp q
    rw [e, if_neg (by decide)]
    show (if ((PySem.W.clsIn K C).isSome && PySem.W.typeIn K (.ref C) == some (.type "type")) = true then PySem.W.subIn K (.type t) (.ref C) else none) = _
    rw [if_pos o.cl]
    exact sub_base K C b
  | own h => simp
end
section
variable {X : Cx} {CX : CXT} {k : Nat} {C f : Addr} {fd : FuncData} {ps : List Str} {sp : Sp} {E : XK}
/-- a def called by values somewhere below -/
theorem own_call {A : Around} {pins : List (Addr × Obj)} {σ : L2.St} {H : Hp} {s : Shared} {vs : List V} {us : List Value} {Q : VK} (F : FnOk X.prog X.w X.K X.mg X.base CX k f fd ps sp) (sb : Sub X k A) (I : Inv X pins σ H s)
    (hb : Binds X.K fd ps []) (hx : Passes CX X E) (r : Vals vs us) (h : sp vs H Q E) : wpAny (model X.prog X.w) A (call (.ref f) us) (EP X pins σ Q) X.xe s := by
  have e0 : Env0 X.prog X.w X.K X.mg X.base A X.stack s H := by
    have e := I.env0
    exact ⟨by rw [sb.fr]; exact e.frames, e.mod, e.bs, e.bsz, e.funs, e.frf, e.hok, e.bare⟩
  have hl := F.len _ _ _ _ h
  refine wpAny_call (codeAny_mono (F.run A X.stack s H ⟨us, []⟩ us vs Q E sb.room e0 (by
    have := hb s us I.kIn (by simp only [List.append_nil]; rw [← r.length]; exact hl)
    simpa using this) r h) fun r s' hq => ?_)
  cases r with
  | error e => exact hx pins σ H s e s' I hq
  | ok fl =>
    cases fl with
    | ret w => exact I.after hq
    | next => exact False.elim hq
    | brk => exact False.elim hq
    | cont => exact False.elim hq
/-- x == y by x's own == -/
def rOwnEq (K : PySem.W.Frag) (C : Addr) (sp : Sp) (E : XK) (neg : Bool) : R2 := fun x y H Q => ∃ a dx fs t, x = .ref a ∧ H a = some (.ins C dx fs) ∧ TyR K H C y t ∧ sp [x, y] H (fun r H' => ∃ b, r = .bl b ∧ Q (.bl (if neg then !b else b)) H') E
theorem op_ownEq {K : PySem.W.Frag} (hK : X.K = K) (o : OwnC K C) (F : FnOk X.prog X.w X.K X.mg X.base CX k f fd ps sp) (hr : Room (k + 1) X.A) (hs : PySem.W.findIn K (.ref C) "__eq__" = some (some (.ref f))) (hf : PySem.W.isFn K (.ref f) = true) (hb : Binds K fd ps []) (hx : Passes CX X E) :
    OpR X (compareOp .Eq) (rOwnEq K C sp E false) := by
  subst hK
  intro pins s σ H x y u v Q I rx ry h
  obtain ⟨a, dx, fs, t, rfl, ha, ty, h⟩ := h
  cases rx
  obtain ⟨mA, J, _⟩ := ins_get I.hok ha
  obtain ⟨od, J, _⟩ := J.look
  obtain ⟨P, Z, p, _⟩ := kit_of I ry ty.tyx
  obtain ⟨m, hF⟩ := I.fr
  show wpAny (model X.prog X.w) X.A (richCompare .Eq (.ref a) v) (EP X pins σ Q) X.xe s
  refine PySem.W.cmp_K (op := .Eq) (tb := t) hr.units0 hF I.ok.mod.kin J (Z.ty _ _ I.kIn p) ty.first hs hf ?_
  refine wpAny_mono (own_call F ⟨hr.mono (Nat.le_succ k), rfl⟩ I hb hx (.cons (show RelV (V.ref a) (Value.ref a) from rfl) (.cons ry .nil)) h) (fun r s' z => ?_) fun _ _ e => e
  obtain ⟨rv, H', I', rr, b, rfl, q⟩ := z
  cases rr
  exact ⟨.bl b, H', I', rfl, q⟩
theorem op_ownNe {K : PySem.W.Frag} (hK : X.K = K) (o : OwnC K C) (F : FnOk X.prog X.w X.K X.mg X.base CX k f fd ps sp) (hr : Room (k + 1) X.A) (hs : PySem.W.findIn K (.ref C) "__eq__" = some (some (.ref f))) (hf : PySem.W.isFn K (.ref f) = true) (hb : Binds K fd ps []) (hx : Passes CX X E) :
    OpR X (compareOp .NotEq) (rOwnEq K C sp E true) := by
  subst hK
  intro pins s σ H x y u v Q I rx ry h
  obtain ⟨a, dx, fs, t, rfl, ha, ty, h⟩ := h
  cases rx
  obtain ⟨mA, J, _⟩ := ins_get I.hok ha
  obtain ⟨od, J, _⟩ := J.look
  obtain ⟨P, Z, p, _⟩ := kit_of I ry ty.tyx
  show wpAny (model X.prog X.w) X.A (richCompare .NotEq (.ref a) v) (EP X pins σ Q) X.xe s
  refine ne_K (tb := t) (by have := hr.in1.units0; exact this) I.kIn J (Z.ty _ _ I.kIn p) ty.first o.ne o.hm hs hf ?_
  refine wpAny_mono (own_call F (Sub.in1 ⟨hr, rfl⟩) I hb hx (.cons (show RelV (V.ref a) (Value.ref a) from rfl) (.cons ry .nil)) h) (fun r s' z => ?_) fun _ _ e => e
  obtain ⟨rv, H', I', rr, b, rfl, q⟩ := z
  cases rr
  exact ⟨b, rfl, .bl (!b), H', I', rfl, q⟩
/-- str(x), repr(x) by x's own -/
def rOwnTx (C : Addr) (sp : Sp) (E : XK) : List V → Hp → VK → Prop := fun xs H Q => ∃ a dx fs, xs = [.ref a] ∧ H a = some (.ins C dx fs) ∧ sp [.ref a] H (fun r H' => ∃ b, r = .str b ∧ Q (.str b) H') E
theorem call_ownStr {K : PySem.W.Frag} (hK : X.K = K) (F : FnOk X.prog X.w X.K X.mg X.base CX k f fd ps sp) (hr : Room (k + 2) X.A) (hs : PySem.W.findIn K (.ref C) "__str__" = some (some (.ref f))) (hf : PySem.W.isFn K (.ref f) = true) (hb : Binds K fd ps []) (hx : Passes CX X E) :
    CallR X (.type "str") (rOwnTx C sp E) := by
  subst hK
  intro pins s σ H xs us Q I r h
  obtain ⟨a, dx, fs, rfl, ha, h⟩ := h
  obtain rfl := Vals.ref1 r
  obtain ⟨mA, J, _⟩ := ins_get I.hok ha
  obtain ⟨od, J, _⟩ := J.look
  refine PySem.W.kso_call (by have := hr.in1.in1.units0; exact this) I.kIn J hs hf ?_
  refine wpAny_mono (own_call F (Sub.in1 (Sub.in1 ⟨hr, rfl⟩)) I hb hx (.cons (show RelV (V.ref a) (Value.ref a) from rfl) .nil) h) (fun r s' z => ?_) fun _ _ e => e
  obtain ⟨rv, H', I', rr, b, rfl, q⟩ := z
  obtain ⟨t, rfl⟩ := rr
  exact ⟨.str b, H', I', ⟨t, rfl⟩, q⟩
theorem call_ownRepr {K : PySem.W.Frag} (hK : X.K = K) (F : FnOk X.prog X.w X.K X.mg X.base CX k f fd ps sp) (hr : Room (k + 1) X.A) (hs : PySem.W.findIn K (.ref C) "__repr__" = some (some (.ref f))) (hf : PySem.W.isFn K (.ref f) = true) (hb : Binds K fd ps []) (hx : Passes CX X E) :
    CallR X (.builtin "repr") (rOwnTx C sp E) := by
  subst hK
  intro pins s σ H xs us Q I r h
  obtain ⟨a, dx, fs, rfl, ha, h⟩ := h
  obtain rfl := Vals.ref1 r
  obtain ⟨mA, J, _⟩ := ins_get I.hok ha
  obtain ⟨od, J, _⟩ := J.look
  obtain ⟨m, hF⟩ := I.fr
  refine PySem.W.repr_K (by have := hr.in1.units0; exact this) hF I.ok.mod.kin J hs hf ?_
  refine wpAny_mono (own_call F (Sub.in1 ⟨hr, rfl⟩) I hb hx (.cons (show RelV (V.ref a) (Value.ref a) from rfl) .nil) h) (fun r s' z => ?_) fun _ _ e => e
  obtain ⟨rv, H', I', rr, b, rfl, q⟩ := z
  obtain ⟨t, rfl⟩ := rr
  exact ⟨.str b, H', I', ⟨t, rfl⟩, q⟩
open PySem.Builtin in
theorem call_ownBool {K : PySem.W.Frag} (hK : X.K = K) (o : OwnC K C) : CallR X (.type "bool") (fun xs H Q => ∃ a dx fs, xs = [.ref a] ∧ H a = some (.ins C dx fs) ∧ Q (.bl true) H) := by
  subst hK
  intro pins s σ H xs us Q I r h
  obtain ⟨a, dx, fs, rfl, ha, q⟩ := h
  obtain rfl := Vals.ref1 r
  obtain ⟨mA, J, _⟩ := ins_get I.hok ha
  obtain ⟨od, J, _⟩ := J.look
  obtain ⟨m, hF⟩ := I.fr
  have g : Meets (Builtin.«bool.__new__» ⟨[.type "bool", .ref a], []⟩) (fun A R s => (∀ (M : Model) (A : Around) (E : Value → Shared → Prop) (Q : Bool → Shared → Prop) (tk : Nat), Q true { s with toks := tk } → wpAny M A (truthy (.ref a)) Q E { s with toks := tk }) ∧ ∀ tk, R (.ok (.ret (.bool true))) { s with toks := tk }) :=
    Meets.of_wp fun prog w A R s hs => by
      obtain ⟨hl, hs⟩ := hs
      obtain ⟨hp, g, d, tk, os⟩ := s
      have f1 := PySem.F.conv_sub_bool
      repeat (any_goals (first | assumption | (with_reducible refine hl _ _ _ _ _ ?_) | wp_step))
      all_goals first | exact ⟨_, rfl, hs _⟩ | exact hs _ | skip
  refine call_bool_1 g ⟨fun M A E Q tk hq => ?_, fun tk => ⟨rfl, .bl true, H, I.tok tk, rfl, q⟩⟩
  have J2 := J
  exact PySem.W.truthy_K0 (s := { s with toks := tk }) hF I.ok.mod.kin J2 o.bo o.le hq
end
end Dn
set_option Elab.async false
set_option linter.all false
set_option maxRecDepth 100000
set_option maxHeartbeats 2000000
namespace Dn
open PySem PySem.Spec PyProof.Rows L2
/-! ### o.m(k = v) -/
def tMethN (C : Addr) (m : Str) (n : Nat) (sp : Sp) (gV : List V → List V → List V) (E : XK) (ta : TE) (tk : TA) : TE := fun σ H Q => ta σ H fun x H1 => ∃ a dx fs, x = .ref a ∧ H1 a = some (.ins C dx fs) ∧ fs.lookup m = none ∧
  tk σ H1 fun zs H2 => zs.length = n ∧ sp (gV [x] zs) H2 Q E
section
variable {X : Cx} {CX : CXT} {k : Nat} {f C : Addr} {fd : FuncData} {ps ks : List Str} {sp : Sp} {E : XK} {m : Str} {apos pos : Pos} {o : Expr} {kws : List Keyword} {ta : TE} {tk : TA} {g : List Value → List Value → List Value} {gV : List V → List V → List V}
theorem pe_methN0 {K : PySem.W.Frag} {pl : Sem Bool} (hK : X.K = K) (he : PE X o ta) (c : Cls K C) (hm : Meth K C m f) (F : FnOk X.prog X.w X.K X.mg X.base CX k f fd ps sp) (hr : Room k X.A) (hb : KBn K fd ps 1 ks g gV) (hx : Passes CX X E)
    (hkw : PK X kws tk) (hall : (backToKw pos (keywordEach kws X.env)).all (·.1.isSome) = true := by rfl) (hks : (backToKw pos (keywordEach kws X.env)).filterMap (·.1) = ks := by rfl)
    (hpl : ((backTo pos (starEach [] X.env)).any (·.1) || (backToKw pos (keywordEach kws X.env)).any (·.1.isNone)) = false := by rfl)
    (ht : eval (.Call (.Attribute o m apos) [] kws pos) X.env = (do
      let ov ← eval o X.env
      standAt apos.atName
      let (f, first) ← holding [ov] (getMethod ov m pl)
      callWith pos f first (backTo pos (starEach [] X.env)) (backToKw pos (keywordEach kws X.env))) := by rfl) :
    PE X (.Call (.Attribute o m apos) [] kws pos) (tMethN C m ks.length sp gV E ta tk) := by
  subst hK
  refine ⟨fun pins s σ H Q I h => ?_⟩
  refine PySem.W.methodCall_KW (pl := pl) (thn (he.run pins s σ H _ I h) fun u s1 ⟨x, H1, I1, rx, a, dx, fs, ex, ea, l, q⟩ => ?_) ht
  subst ex
  obtain rfl : u = Value.ref a := rx
  refine getmeth_ok I1 ea c hm l ?_
  refine PySem.W.callWith_KW0 (first := [.ref a]) (h₀ := X.base) I.ok.mod.kin hm.kp hall (thn (hkw.run pos pins s1 σ H1 _ I1 q) fun ws s2 ⟨zs, H2, I2, rz, l2, q2⟩ => ⟨I2.kIn, ?_⟩) hpl
  rw [hks]
  exact run_fnN (us := [.ref a]) (vs := [.ref a]) F hr hb hx I2 (.cons rfl .nil) rz rfl l2 q2
end
theorem kb1 {K : PySem.W.Frag} {x qual : Str} {st : Stmt} {f : Addr} {fd : FuncData} {p0 p1 : Str} (F : Fun K x qual st f fd)
    (h : ∀ (kV doc pm : Value) (an : Option Addr) (cdv ct u v : Value), bindArgs (PySem.W.fnOf x qual (defArgs st) (defBody st) (defScope st) .none kV doc pm an cdv ct) ⟨[u], [(p1, v)]⟩ = pure [(p0, u), (p1, v)]) :
    KBn K fd [p0, p1] 1 [p1] (fun us ws => us ++ ws) (fun vs zs => vs ++ zs) := by
  obtain ⟨oc, od, kV, doc, pm, an, cdv, ct, osl, rfl, lk, hcd⟩ := F.ex
  refine ⟨fun s us ws X l1 l2 => ?_, fun r1 r2 => r1.append r2⟩
  match us, ws, l1, l2 with
  | [u], [v], _, _ => exact BindsTo.of_eq (h kV doc pm an cdv ct u v)
variable [CTab]
/-! ### readings -/
section
variable {σ : L2.St} {B H : Hp} {K : PySem.W.Frag} {ta te : TE} {tk : TA} {oa : Option U} {E : XK} {c : Nat} {m : List U → Option U}
theorem eo_methN {nm : Str} {n : Nat} {ol : Option (List U)} (h : EvO ta σ B H oa) (hl : EvA tk σ B H ol) :
    EvO (tMethN (CTab.ct c) nm n (spU m) (fun vs zs => vs ++ zs) E ta tk) σ B H (methO c nm (fun xs => if xs.length = n + 1 then m xs else none) oa ol) := fun z e B1 H1 g Q q => by
  obtain ⟨x, ex, e⟩ := bind_some e
  refine h x ex B1 H1 g _ fun v B2 H2 g2 r => ?_
  cases r with
  | @obj a dx D fs es h1 h2 r =>
    have e2 : (if D = c ∧ noneQ (fs.lookup nm) = true then ol.bind fun xs => (if (U.obj D fs :: xs).length = n + 1 then m (.obj D fs :: xs) else none) else none) = some z := e
    clear e
    split at e2
    · rename_i hD
      obtain ⟨hD, hm⟩ := hD
      subst hD
      obtain ⟨xs, exs, e⟩ := bind_some e2
      have hm' : fs.lookup nm = none := by
        cases q : fs.lookup nm with
        | none => rfl
        | some u => rw [q] at hm; cases hm
      split at e
      · rename_i hn
        refine ⟨a, dx, es, rfl, g2.bh _ _ h1, (r.look nm).2 hm', hl xs exs B2 H2 (g.trans g2) _ fun vs B3 H3 g3 r3 => ⟨by rw [r3.length]; simpa using hn, ?_⟩⟩
        exact ⟨B3, _, z, g3.bh, .cons ((Rp.obj h1 h2 r).up g3) r3, e, fun v B4 H4 g4 r4 => q v B4 H4 ((g2.trans g3).trans g4) r4⟩
      · cases e
    · cases e2
  | _ => cases e
/-- a property -/
def propV (c : Nat) (m : List U → Option U) : U → Option U
  | .obj d fs => if d = c then m [.obj d fs] else none
  | _ => none
theorem eo_prop (h : EvO ta σ B H oa) : EvO (tProp (CTab.ct c) (spU m) [] E ta) σ B H (op1 (propV c m) oa) := fun z e B1 H1 g Q q => by
  obtain ⟨x, ex, e⟩ := bind_some e
  refine h x ex B1 H1 g _ fun v B2 H2 g2 r => ?_
  cases r with
  | @obj a dx D fs es h1 h2 r =>
    have e2 : (if D = c then m [.obj D fs] else none) = some z := e
    clear e
    split at e2
    · rename_i hD
      subst hD
      exact ⟨a, dx, es, rfl, g2.bh _ _ h1, B2, _, z, g2.bh, .cons (Rp.obj h1 h2 r) .nil, e2, fun v B3 H3 g3 r3 => q v B3 H3 (g2.trans g3) r3⟩
    · cases e2
  | _ => cases e
/-! ### whether a value is of the class c -/
def U.tyk (c : Nat) : U → Option Bool
  | .obj d _ => if d = c then some true else none
  | .dit _ => none
  | .dib _ => none
  | .mt => none
  | .exc _ _ => none
  | _ => some false
theorem tyR_of (o : OwnC K (CTab.ct c)) {u : U} {v : V} {b : Bool} (s : Same B H) (r : Rp B u v) (h : u.tyk c = some b) : ∃ t, TyR K H (CTab.ct c) v t ∧ (t == .ref (CTab.ct c)) = b := by
  have base : ∀ (T : String), (Value.type T == Value.ref (CTab.ct c)) = false := fun T => Bool.eq_false_iff.mpr fun q => by cases beq_iff_eq.mp q
  cases r with
  | non => cases h; exact ⟨_, .base (.base .non) (by simp [baseTy]), base _⟩
  | bl b => cases h; exact ⟨_, .base (.base (.bl b)) (by simp [baseTy]), base _⟩
  | int b => cases h; exact ⟨_, .base (.base (.int b)) (by simp [baseTy]), base _⟩
  | str b => cases h; exact ⟨_, .base (.base (.str b)) (by simp [baseTy]), base _⟩
  | tup e r => cases h; exact ⟨_, .base (.base (.tup (s _ _ e))) (by simp [baseTy]), base _⟩
  | tpd e _ r => cases h; exact ⟨_, .base (.fTuple (s _ _ e)) (by simp [baseTy]), base _⟩
  | lst e r => cases h; exact ⟨_, .base (.base (.lst (s _ _ e))) (by simp [baseTy]), base _⟩
  | frl e r => cases h; exact ⟨_, .base (.base (.frz (s _ _ e))) (by simp [baseTy]), base _⟩
  | dic e r => cases h; exact ⟨_, .base (.fDict (s _ _ e)) (by simp [baseTy]), base _⟩
  | dit e r => cases h
  | dib e _ r => cases h
  | mt => cases h
  | exc0 _ => cases h
  | exc _ _ _ => cases h
  | @obj a dx D fs es h1 h2 r =>
    have h5 : (if D = c then some true else none) = some b := h
    clear h
    split at h5
    · rename_i hD
      subst hD
      cases h5
      exact ⟨_, .own (.base (.ins (s _ _ h1) o.cls o.ha o.hn o.htk o.hm)), by simp⟩
    · cases h5
theorem call_isiO {X : Cx} (hK : X.K = K) : CallR X (.builtin "isinstance") (rIsi K) := hK ▸ call_isi
theorem eo_isOwn (o : OwnC K (CTab.ct c)) (ha : EvO ta σ B H oa) : EvO (tCB (rIsi K) (tCons ta (tCons (tC (.ref (CTab.ct c))) tNil))) σ B H (op1 (fun x => (x.tyk c).map U.bl) oa) := fun z e B1 H1 g Q q => by
  obtain ⟨x, ex, e⟩ := bind_some e
  obtain ⟨b, eb, e⟩ := map_some e
  subst e
  refine ha x ex B1 H1 g _ fun v B2 H2 g2 r => ?_
  obtain ⟨t, ty, et⟩ := tyR_of o g2.bh r eb
  exact ⟨v, _, t, .ref (CTab.ct c), b, rfl, .own _, ty.tyx, by rw [← et]; exact ty.kit o, q _ B2 H2 g2 (.bl b)⟩
/-! ### ==, !=, str, repr, bool -/
def ownEqV (c : Nat) (m : List U → Option U) (neg : Bool) (x y : U) : Option U := match x with
  | .obj d fs => if d = c then (y.tyk c).bind fun _ => (m [.obj d fs, y]).bind fun r => r.asB.map fun b => .bl (if neg then !b else b) else none
  | _ => none
theorem rv_ownEq {neg : Bool} (o : OwnC K (CTab.ct c)) : RV (rOwnEq K (CTab.ct c) (spU m) E neg) (ownEqV c m neg) := fun x y z e v w B H s rx ry Q q => by
  cases rx with
  | @obj a dx D fs es h1 h2 r =>
    have e5 : (if D = c then (y.tyk c).bind fun _ => (m [.obj D fs, y]).bind fun r => r.asB.map fun b => U.bl (if neg then !b else b) else none) = some z := e
    clear e
    split at e5
    · rename_i hD
      subst hD
      obtain ⟨k, ek, e⟩ := bind_some e5
      obtain ⟨rr, er, e⟩ := bind_some e
      obtain ⟨b, eb, e⟩ := map_some e
      subst e
      obtain ⟨t, ty, _⟩ := tyR_of o s ry ek
      refine ⟨a, dx, es, t, rfl, s _ _ h1, ty, B, [.obj D fs, y], rr, s, .cons (.obj h1 h2 r) (.cons ry .nil), er, fun v2 B2 H2 g2 r2 => ?_⟩
      cases rr <;> cases eb
      cases r2
      exact ⟨_, rfl, q _ B2 H2 g2 (.bl _)⟩
    · cases e5
  | _ => cases e
def U.asS : U → Option Str
  | .str s => some s
  | _ => none
def ownTxV (c : Nat) (m : List U → Option U) : U → Option U
  | .obj d fs => if d = c then (m [.obj d fs]).bind fun r => r.asS.map U.str else none
  | _ => none
theorem rc_ownTx : RC (rOwnTx (CTab.ct c) (spU m) E) (c1 (ownTxV c m)) := rc_one c1_one fun x z e v B H s rx Q q => by
  cases rx with
  | @obj a dx D fs es h1 h2 r =>
    have e5 : (if D = c then (m [.obj D fs]).bind fun r => r.asS.map U.str else none) = some z := e
    clear e
    split at e5
    · rename_i hD
      subst hD
      obtain ⟨rr, er, e⟩ := bind_some e5
      obtain ⟨b, eb, e⟩ := map_some e
      subst e
      refine ⟨a, dx, es, rfl, s _ _ h1, B, [.obj D fs], rr, s, .cons (.obj h1 h2 r) .nil, er, fun v2 B2 H2 g2 r2 => ?_⟩
      cases rr <;> cases eb
      cases r2
      exact ⟨_, rfl, q _ B2 H2 g2 (.str _)⟩
    · cases e5
  | _ => cases e
def ownBoolV (c : Nat) : U → Option U
  | .obj d _ => if d = c then some (.bl true) else none
  | _ => none
theorem rc_ownBool : RC (fun xs H Q => ∃ a dx fs, xs = [V.ref a] ∧ H a = some (.ins (CTab.ct c) dx fs) ∧ Q (.bl true) H) (c1 (ownBoolV c)) := rc_one c1_one fun x z e v B H s rx Q q => by
  cases rx with
  | @obj a dx D fs es h1 h2 r =>
    have e5 : (if D = c then some (U.bl true) else none) = some z := e
    clear e
    split at e5
    · rename_i hD
      subst hD
      cases e5
      exact ⟨a, dx, es, rfl, s _ _ h1, q _ B H (Go.refl s) (.bl true)⟩
    · cases e5
  | _ => cases e
end
/-! ### two clauses, the first one over pairs -/
section
variable {σ : L2.St} {B H : Hp} {K : PySem.W.Frag}
theorem eo_lc2t {wi wi1 : TI} {tt tt1 : TT} {te : TE} {vs vs1 : List Nat} {j j' j1 : Nat} {oxs : Option (List U)} {p : U → U → Option Bool} {ys : U → U → Option (List U)} {p1 f : U → U → U → Option _} (hi : EvI wi σ B H oxs)
    (hw : ∀ x y, wipe (((wipe σ vs).set j (some x)).set j' (some y)) vs = wipe σ vs) (hw1 : ∀ x y z, wipe ((wipe (((wipe σ vs).set j (some x)).set j' (some y)) vs1).set j1 (some z)) vs1 = wipe (((wipe σ vs).set j (some x)).set j' (some y)) vs1)
    (hp : ∀ a b v w B1 H1, At B B1 H1 → Rp B1 a v → Rp B1 b w → EvT tt (((wipe σ vs).set j (some v)).set j' (some w)) B1 H1 (p a b)) (hy : ∀ a b v w B1 H1, At B B1 H1 → Rp B1 a v → Rp B1 b w → EvI wi1 (((wipe σ vs).set j (some v)).set j' (some w)) B1 H1 (ys a b))
    (hp1 : ∀ a b v w u' v' B1 H1, At B B1 H1 → Rp B1 a v → Rp B1 b w → Rp B1 u' v' → EvT tt1 ((wipe (((wipe σ vs).set j (some v)).set j' (some w)) vs1).set j1 (some v')) B1 H1 (p1 a b u'))
    (hf : ∀ a b v w u' v' B1 H1, At B B1 H1 → Rp B1 a v → Rp B1 b w → Rp B1 u' v' → EvO te ((wipe (((wipe σ vs).set j (some v)).set j' (some w)) vs1).set j1 (some v')) B1 H1 (f a b u')) :
    EvO (tLc2 wi (gTup K 2 (gCons (gName j) (gCons (gName j') gNil))) tt wi1 (gName j1) tt1 te vs vs1) σ B H
      (compOO (fun u => (unp2 u).bind fun ab => p ab.1 ab.2) (fun u => (unp2 u).bind fun ab => ys ab.1 ab.2) (fun u u' => (unp2 u).bind fun ab => p1 ab.1 ab.2 u') (fun u u' => (unp2 u).bind fun ab => f ab.1 ab.2 u') oxs) :=
  eo_lc2G hi fun u v B1 H1 Q b g r eb k => by
    obtain ⟨⟨x, y⟩, eu, eb⟩ := bind_some eb
    refine g_two g.bh r eu fun a' b' ra rb => k _ (hw a' b') (by rw [← eb]; exact hp x y a' b' B1 H1 g ra rb) fun _ => ⟨by rw [eu]; exact hy x y a' b' B1 H1 g ra rb, fun u' v' B2 H2 Q' bb g' r' eb' k' => ?_⟩
    have gg : At B B2 H2 := g.tr g'
    rw [eu] at eb'
    refine k' _ (hw1 a' b' v') (by rw [← eb']; exact hp1 x y a' b' u' v' B2 H2 gg (ra.upA g') (rb.upA g') r') fun _ => ?_
    rw [eu]
    exact hf x y a' b' u' v' B2 H2 gg (ra.upA g') (rb.upA g') r'
end
/-! ### the values of a dict -/
def U.vals : U → Option (List U)
  | .dic kvs => some (kvs.map fun kv => kv.2)
  | _ => none
theorem Rpk.valsU {B : Hp} : ∀ {xs : List (Key × U)} {vs : List (Key × V)}, Rpk B xs vs → Rps B (xs.map fun kv => kv.2) (vs.map fun kv => kv.2)
  | _, _, .nil => .nil
  | _, _, .cons h t => .cons h (Rpk.valsU t)
theorem ei_vals {σ : L2.St} {B H : Hp} {tl : TE} {oa : Option U} (h : EvO tl σ B H oa) : EvI (iVals tl) σ B H (oa.bind U.vals) := fun xs e B1 H1 g R q => by
  obtain ⟨x, ex, e⟩ := bind_some e
  refine h x ex B1 H1 g _ fun v B2 H2 g2 r => ?_
  cases r with
  | @dic a kvs es o h r =>
    cases e
    refine ⟨a, o, es, rfl, g2.bh _ _ h, q _ B2 H2 g2 ⟨fun i H' hi s => ?_, fun H' s => ?_, fun i H' x H'' B' hi s1 s2 y => ?_⟩⟩
    · rw [List.length_map, ← r.length] at hi
      exact ⟨s _ _ h, hi⟩
    · rw [List.length_map, ← r.length]
      exact ⟨s _ _ h, Nat.le_refl _⟩
    · obtain ⟨e1, k, e2⟩ := y
      subst e1
      obtain ⟨x, ex, rx⟩ := r.at e2
      exact ⟨B', x, Go.refl s2, by simp [ex], rx.kp (Kp.of s1)⟩
  | _ => cases e
/-! ### d == {}, d != {} -/
def rEmp (neg : Bool) : R2 := fun x y H Q => ∃ (d p : Addr) (o : Obj) (kvs : List (Key × V)), x = .ref d ∧ y = .ref p ∧ H d = some (.frz o (.dK kvs)) ∧ H p = some (.dK []) ∧ Q (.bl (if neg then !kvs.isEmpty else kvs.isEmpty)) H
section
variable {X : Cx}
theorem op_emp (hu : X.A.units + 64 < cLine) : OpR X (compareOp .Eq) (rEmp false) := by
  intro pins s σ H x y v u Q I rx ry h
  obtain ⟨d, p, o, kvs, rfl, rfl, hd, hp, q⟩ := h
  cases rx; cases ry
  obtain ⟨hs, hgd, hx, es, ep, vs, hdt, hsz, kv, hm⟩ := I.frzK hd
  obtain ⟨_, hs2, vs2, kv2, dd2⟩ := I.hok p _ hp
  cases kv2
  have hl : kvs.length = vs.length := Paired.length kv
  refine PySem.W.keq_eq (knd := mixKind X.prog X.w) (r := true) hs hs2 hm.dictOf dd2 (by omega) (fun e => ?_) ⟨.bl kvs.isEmpty, H, I, ?_, q⟩
  · cases vs with
    | nil => exact .nil
    | cons a b => cases e
  · show Value.bool _ = Value.bool _
    cases kvs <;> cases vs <;> first | rfl | cases hl
theorem op_nemp (hu : X.A.units + 64 < cLine) : OpR X (compareOp .NotEq) (rEmp true) := by
  intro pins s σ H x y v u Q I rx ry h
  obtain ⟨d, p, o, kvs, rfl, rfl, hd, hp, q⟩ := h
  cases rx; cases ry
  obtain ⟨hs, hgd, hx, es, ep, vs, hdt, hsz, kv, hm⟩ := I.frzK hd
  obtain ⟨_, hs2, vs2, kv2, dd2⟩ := I.hok p _ hp
  cases kv2
  have hl : kvs.length = vs.length := Paired.length kv
  refine PySem.W.keq_ne (knd := mixKind X.prog X.w) (r := true) hs hs2 hm.dictOf dd2 (by omega) (fun e => ?_) ⟨.bl (!kvs.isEmpty), H, I, ?_, q⟩
  · cases vs with
    | nil => exact .nil
    | cons a b => cases e
  · show Value.bool _ = Value.bool _
    cases kvs <;> cases vs <;> first | rfl | cases hl
end
def empV (neg : Bool) : U → Option U
  | .dic kvs => some (.bl (if neg then !kvs.isEmpty else kvs.isEmpty))
  | _ => none
theorem eo_emp {σ : L2.St} {B H : Hp} {ta : TE} {oa : Option U} {neg : Bool} (h : EvO ta σ B H oa) : EvO (tOp (rEmp neg) ta tDNewK) σ B H (op1 (empV neg) oa) := fun z e B1 H1 g Q q => by
  obtain ⟨x, ex, e⟩ := bind_some e
  refine h x ex B1 H1 g _ fun v B2 H2 g2 r => fun p hp => ?_
  cases r with
  | @dic a kvs es o h r =>
    cases e
    have g3 : Go B2 H2 B2 (upd H2 p (.dK [])) := Go.own g2.bh hp
    refine ⟨a, p, o, es, rfl, rfl, g3.bh _ _ h, upd_same, ?_⟩
    have e : es.isEmpty = kvs.isEmpty := by cases r <;> rfl
    rw [e]
    exact q _ B2 _ (g2.trans g3) (.bl _)
  | _ => cases e
end Dn
set_option Elab.async false
set_option linter.all false
set_option maxRecDepth 100000
set_option maxHeartbeats 2000000
namespace Dn
open PySem PySem.Spec PyProof.Rows L2
variable [CTab]
/-! ### an instance being made by its own __init__ -/
structure MkO (c : Nat) (B H : Hp) (x dx : Addr) (fs : List (Str × U)) (es : List (Str × V)) : Prop where
  hx : H x = some (.ins (CTab.ct c) dx es)
  rf : Rpf B fs es
  hd : H dx = some (.own x)
  ne : x ≠ dx
  bx : B x = none
  bd : B dx = none
def putUF (f : Str) (u : U) : List (Str × U) → List (Str × U)
  | [] => [(f, u)]
  | (g, x) :: r => if g = f then (g, u) :: r else (g, x) :: putUF f u r
theorem Rpf.put {B : Hp} {f : Str} {u : U} {v : V} (r : Rp B u v) : ∀ {fs : List (Str × U)} {es : List (Str × V)}, Rpf B fs es → Rpf B (putUF f u fs) (putF f v es)
  | _, _, .nil => .cons r .nil
  | _, _, .cons (k := k) h t => by
    unfold putUF putF
    by_cases e : k = f
    · rw [if_pos e, if_pos e]; exact .cons r t
    · rw [if_neg e, if_neg e]; exact .cons h (Rpf.put r t)
theorem Rpf.length {B : Hp} : ∀ {fs : List (Str × U)} {es : List (Str × V)}, Rpf B fs es → es.length = fs.length
  | _, _, .nil => rfl
  | _, _, .cons _ t => by rw [List.length_cons, List.length_cons, Rpf.length t]
section
variable {c : Nat} {B H B2 H2 : Hp} {x dx : Addr} {fs : List (Str × U)} {es : List (Str × V)} {K : PySem.W.Frag} {σ : L2.St}
theorem MkO.go (M : MkO c B H x dx fs es) (g : Go B H B2 H2) : MkO c B2 H2 x dx fs es :=
  ⟨g.h _ _ M.hx, M.rf.kp (Kp.of g.b), g.h _ _ M.hd, M.ne, g.noB M.bx M.hx, g.noB M.bd M.hd⟩
theorem MkO.set {f : Str} {u : U} {v : V} (M : MkO c B H x dx fs es) (r : Rp B u v) : MkO c B (upd H x (.ins (CTab.ct c) dx (putF f v es))) x dx (putUF f u fs) (putF f v es) :=
  ⟨upd_same, M.rf.put r, by rw [upd_ne M.ne.symm]; exact M.hd, M.ne, M.bx, M.bd⟩
theorem q_fld {f : Str} {u : U} {tv : TE} {tz : TS} {D : Ends} (M : MkO c B H x dx fs es) (s : Same B H) (cl : Cls K (CTab.ct c)) (na : NoAttr K (CTab.ct c) f) (hv : σ[0]? = some (some (.ref x))) (h : EvO tv σ B H (some u)) (hl : fs.length < 1000)
    (k : ∀ B2 H2 es2, Gs (fun a => a = x) B H B2 H2 → MkO c B2 H2 x dx (putUF f u fs) es2 → tz D σ H2) : tSeq (sFld K (tVar 0) tv f) tz D σ H := by
  refine h u rfl B H (At.refl s) _ fun v B2 H2 g2 r2 => ?_
  have M2 := M.go g2
  refine ⟨_, hv, x, _, dx, es, rfl, M2.hx, cl, na, by rw [M.rf.length]; exact hl, ?_⟩
  exact k B2 _ _ ((Gs.of g2).trans (gs_one g2.bh M2.bx rfl)) (M2.set r2)
/-- self.f = g(self.e) -/
theorem q_fldC {f e : Str} {u z : U} {m : List U → Option U} {E : XK} {tz : TS} {D : Ends} (M : MkO c B H x dx fs es) (s : Same B H) (cl : Cls K (CTab.ct c)) (na : NoAttr K (CTab.ct c) f) (ne : NoAttr K (CTab.ct c) e) (hv : σ[0]? = some (some (.ref x)))
    (he : fs.lookup e = some u) (hm : m [u] = some z) (hl : fs.length < 1000)
    (k : ∀ B2 H2 es2, Gs (fun a => a = x) B H B2 H2 → MkO c B2 H2 x dx (putUF f z fs) es2 → tz D σ H2) : tSeq (sFld K (tVar 0) (tCall (spU m) [] E (tCons (tFld K (tVar 0) e) tNil)) f) tz D σ H := by
  obtain ⟨v, ev, rv⟩ := (M.rf.look e).1 u he
  refine ⟨_, hv, x, _, dx, es, v, rfl, M.hx, cl, ne, ev, ?_⟩
  refine ⟨B, [u], z, s, .cons rv .nil, hm, fun w B2 H2 g2 r2 => ?_⟩
  have M2 := M.go g2
  refine ⟨_, hv, x, _, dx, es, rfl, M2.hx, cl, na, by rw [M.rf.length]; exact hl, ?_⟩
  exact k B2 _ _ ((Gs.of g2).trans (gs_one g2.bh M2.bx rfl)) (M2.set r2)
end
/-- the promise of an own __init__ with one argument -/
def spMk (c : Nat) (m : U → Option (List (Str × U))) : Sp := fun vs H Q _ => ∃ B x dx w u fs, Same B H ∧ vs = [.ref x, w] ∧ MkO c B H x dx [] [] ∧ Rp B u w ∧ m u = some fs ∧
  ∀ B2 H2 es, Gs (fun a => a = x) B H B2 H2 → MkO c B2 H2 x dx fs es → Q .non H2
def mkF (c : Nat) (m : U → Option (List (Str × U))) : List U → Option U
  | [u] => (m u).map (U.obj c)
  | _ => none
section
variable {σ : L2.St} {B H : Hp} {tl : TA} {ol : Option (List U)} {c : Nat} {m : U → Option (List (Str × U))} {E : XK}
theorem make_go {B2 H2 : Hp} {u z : U} {w : V} {Q : VK} (s2 : Same B2 H2) (r : Rp B2 u w) (e : mkF c m [u] = some z) (q : ∀ v B3 H3, Go B2 H2 B3 H3 → Rp B3 z v → Q v H3) (x dx : Addr) (hx : H2 x = none) (hd : H2 dx = none) (hne : dx ≠ x) :
    spMk c m [.ref x, w] (upd (upd H2 dx (.own x)) x (.ins (CTab.ct c) dx [])) (fun v H3 => v = .non ∧ Q (.ref x) H3) E := by
  obtain ⟨fs, ef, e⟩ := map_some (show (m u).map (U.obj c) = some z from e)
  subst e
  have bx : B2 x = none := s2.free hx
  have bd : B2 dx = none := s2.free hd
  refine ⟨B2, x, dx, w, u, fs, fun a o e => ?_, rfl, ⟨upd_same, .nil, by rw [upd_ne hne, upd_same], hne.symm, bx, bd⟩, r, ef, fun B3 H3 es g3 M => ⟨rfl, ?_⟩⟩
  · rw [upd_ne (ne_of_none e bx), upd_ne (ne_of_none e bd)]; exact s2 a o e
  · have g4 : Go B2 H2 (upd (upd B3 dx (.own x)) x (.ins (CTab.ct c) dx es)) H3 := by
      refine ⟨fun a o e => ?_, fun a o e => ?_, fun a o e => ?_, fun a o e => ?_⟩
      · exact g3.h a o (by rw [upd_ne (ne_of_none e hx), upd_ne (ne_of_none e hd)]; exact e) (ne_of_none e hx)
      · rw [upd_ne (ne_of_none e bx), upd_ne (ne_of_none e bd)]; exact g3.b a o e
      · by_cases h1 : a = x
        · subst h1; rw [upd_same] at e; rw [← e]; exact M.hx
        · rw [upd_ne h1] at e
          by_cases h2 : a = dx
          · subst h2; rw [upd_same] at e; rw [← e]; exact M.hd
          · rw [upd_ne h2] at e; exact g3.bh a o e
      · by_cases h1 : a = x
        · subst h1; exact .inr hx
        · rw [upd_ne h1] at e
          by_cases h2 : a = dx
          · subst h2; exact .inr hd
          · rw [upd_ne h2] at e
            rcases g3.fr a o e with z | z | z
            · exact .inl z
            · rw [upd_ne h1, upd_ne h2] at z; exact .inr z
            · exact absurd z h1
    refine q _ _ _ g4 (.obj upd_same (by rw [upd_ne hne, upd_same]) (M.rf.kp (Kp.of fun a o e => ?_)))
    rw [upd_ne (ne_of_none e M.bx), upd_ne (ne_of_none e M.bd)]; exact e
theorem mkF_one : ∀ xs z, mkF c m xs = some z → ∃ x, xs = [x]
  | [x], _, _ => ⟨x, rfl⟩
  | [], _, e => by cases e
  | _ :: _ :: _, _, e => by cases e
theorem eo_make (h : EvA tl σ B H ol) : EvO (tMake (CTab.ct c) (spMk c m) [] E tl) σ B H (callO (mkF c m) ol) := fun z e B1 H1 g Q q => by
  obtain ⟨xs, ex, e⟩ := bind_some e
  obtain ⟨u, rfl⟩ := mkF_one _ _ e
  refine h _ ex B1 H1 g _ fun vs B2 H2 g2 r => ?_
  cases r with
  | cons r t =>
    cases t
    intro x dx hx hd hne
    exact make_go g2.bh r e (fun v B3 H3 g3 r3 => q v B3 H3 (g2.trans g3) r3) x dx hx hd hne
theorem eo_makeK (h : EvA tl σ B H ol) : EvO (tMakeK (CTab.ct c) 0 1 (spMk c m) (fun vs zs => vs ++ zs) E tNil tl) σ B H (callO (mkF c m) ol) := fun z e B1 H1 g Q q => by
  obtain ⟨xs, ex, e⟩ := bind_some e
  obtain ⟨u, rfl⟩ := mkF_one _ _ e
  refine h _ ex B1 H1 g _ fun vs B2 H2 g2 r => ?_
  cases r with
  | cons r t =>
    cases t
    refine ⟨rfl, rfl, fun x dx hx hd hne => ?_⟩
    exact make_go g2.bh r e (fun v B3 H3 g3 r3 => q v B3 H3 (g2.trans g3) r3) x dx hx hd hne
end
/-! ### tuple(list) whose object is known -/
def tpdV : U → Option U
  | .lst xs => some (.tpd xs)
  | .frl xs => some (.tpd xs)
  | _ => none
theorem rc_tpd {K : PySem.W.Frag} : RC (rTupF K) (c1 tpdV) := rc_one c1_one fun x z e v B H s rx Q q => by
  cases rx with
  | @lst a xs vs h r =>
    cases e
    exact ⟨a, vs, rfl, SqL.of (s _ _ h), fun l od hl hd => q _ _ _ (Go.new s hl) (.tpd upd_same hd (r.new s hl))⟩
  | @frl a xs vs o h r =>
    cases e
    exact ⟨a, vs, rfl, .inl (.inr ⟨o, s _ _ h⟩), fun l od hl hd => q _ _ _ (Go.new s hl) (.tpd upd_same hd (r.new s hl))⟩
  | _ => cases e
/-! ### Web.__init__ -/
section
variable {B H : Hp} {x dx : Addr} {K : PySem.W.Frag} {c : Nat} {t1 t4 t5 : TE} {t2 : TT} {tr : TS} {E : XK} {m : List U → Option U} {text found heads : U} {prs : List U} {rows : U} {v : V} {Q : VK}
def webF (text found heads pairs rows : U) : List (Str × U) := [("written", text), ("rows", found), ("heads", heads), ("pairs", pairs), ("zigzag_rows", rows)]
theorem putW (text found heads pairs rows : U) : putUF "zigzag_rows" rows (putUF "pairs" pairs (putUF "heads" heads (putUF "rows" found (putUF "written" text [])))) = webF text found heads pairs rows := by
  have h1 : ¬ (("written" : Str) = "rows") := by decide +kernel
  have h2 : ¬ (("written" : Str) = "heads") := by decide +kernel
  have h3 : ¬ (("rows" : Str) = "heads") := by decide +kernel
  have h4 : ¬ (("written" : Str) = "pairs") := by decide +kernel
  have h5 : ¬ (("rows" : Str) = "pairs") := by decide +kernel
  have h6 : ¬ (("heads" : Str) = "pairs") := by decide +kernel
  have h7 : ¬ (("written" : Str) = "zigzag_rows") := by decide +kernel
  have h8 : ¬ (("rows" : Str) = "zigzag_rows") := by decide +kernel
  have h9 : ¬ (("heads" : Str) = "zigzag_rows") := by decide +kernel
  have h10 : ¬ (("pairs" : Str) = "zigzag_rows") := by decide +kernel
  simp only [putUF, h1, h2, h3, h4, h5, h6, h7, h8, h9, h10, if_false, webF]
theorem lookP (text found heads pairs : U) : (putUF "pairs" pairs (putUF "heads" heads (putUF "rows" found (putUF "written" text [])))).lookup ("pairs" : Str) = some pairs := by
  have h1 : ¬ (("written" : Str) = "rows") := by decide +kernel
  have h2 : ¬ (("written" : Str) = "heads") := by decide +kernel
  have h3 : ¬ (("rows" : Str) = "heads") := by decide +kernel
  have h4 : ¬ (("written" : Str) = "pairs") := by decide +kernel
  have h5 : ¬ (("rows" : Str) = "pairs") := by decide +kernel
  have h6 : ¬ (("heads" : Str) = "pairs") := by decide +kernel
  have e1 : (("pairs" : Str) == "written") = false := by decide +kernel
  have e2 : (("pairs" : Str) == "rows") = false := by decide +kernel
  have e3 : (("pairs" : Str) == "heads") = false := by decide +kernel
  have e4 : (("pairs" : Str) == "pairs") = true := by decide +kernel
  simp only [putUF, h1, h2, h3, h4, h5, h6, if_false, List.lookup_cons, e1, e2, e3, e4]
theorem lenW (text found heads pairs : U) : (putUF "written" text []).length = 1 ∧ (putUF "rows" found (putUF "written" text [])).length < 1000 ∧ (putUF "heads" heads (putUF "rows" found (putUF "written" text []))).length < 1000 ∧ (putUF "pairs" pairs (putUF "heads" heads (putUF "rows" found (putUF "written" text [])))).length < 1000 := by
  have len : ∀ (f : Str) (u : U) (fs : List (Str × U)), (putUF f u fs).length ≤ fs.length + 1 := fun f u fs => by
    induction fs with
    | nil => simp [putUF]
    | cons a r ih =>
      obtain ⟨g, w⟩ := a
      unfold putUF
      split
      · simp
      · simp; omega
  have a1 : (putUF "written" text []).length = 1 := rfl
  have a2 := len "rows" found (putUF "written" text [])
  have a3 := len "heads" heads (putUF "rows" found (putUF "written" text []))
  have a4 := len "pairs" pairs (putUF "heads" heads (putUF "rows" found (putUF "written" text [])))
  refine ⟨a1, ?_, ?_, ?_⟩ <;> omega
theorem webInit_reads {n0 : List (Option V)} (cl : Cls K (CTab.ct c)) (nw : NoAttr K (CTab.ct c) "written") (nr : NoAttr K (CTab.ct c) "rows") (nh : NoAttr K (CTab.ct c) "heads") (np : NoAttr K (CTab.ct c) "pairs") (nz : NoAttr K (CTab.ct c) "zigzag_rows")
    (s : Same B H) (M : MkO c B H x dx [] []) (rt : Rp B text v)
    (h1 : EvO t1 (some (.ref x) :: some v :: none :: n0) B H (some found)) (h2 : ∀ vf B' H', Same B B' → Rp B' found vf → EvT t2 (some (.ref x) :: some v :: some vf :: n0) B' H' (some false))
    (h4 : ∀ vf B' H', Same B B' → Rp B' found vf → EvO t4 (some (.ref x) :: some v :: some vf :: n0) B' H' (some heads))
    (h5 : ∀ vf B' H', Same B B' → Rp B' found vf → EvO t5 (some (.ref x) :: some v :: some vf :: n0) B' H' (some (.tpd prs)))
    (hm : m [.tpd prs] = some rows) (kQ : ∀ B2 H2 es, Gs (fun a => a = x) B H B2 H2 → MkO c B2 H2 x dx (webF text found heads (.tpd prs) rows) es → Q .non H2) :
    tSeq (tAsg t1 (gName 2)) (tSeq (tIfS t2 tr tNext) (tSeq (sFld K (tVar 0) (tVar 1) "written") (tSeq (sFld K (tVar 0) (tVar 2) "rows") (tSeq (sFld K (tVar 0) t4 "heads") (tSeq (sFld K (tVar 0) t5 "pairs")
      (tSeq (sFld K (tVar 0) (tCall (spU m) [] E (tCons (tFld K (tVar 0) "pairs") tNil)) "zigzag_rows") tNext)))))) { nx := fun _ H' => Q .non H', rt := Q } (some (.ref x) :: some v :: none :: n0) H := by
  refine h1 found rfl B H (At.refl s) _ fun vf B1 H1 g1 rf => ?_
  show tSeq _ _ _ (some (V.ref x) :: some v :: some vf :: n0) H1
  refine h2 vf B1 H1 g1.b rf false rfl B1 H1 (At.refl g1.bh) _ fun B2 H2 g2 => ?_
  obtain ⟨l1, l2, l3, l4⟩ := lenW text found heads (.tpd prs)
  have G2 : Gs (fun a => a = x) B H B2 H2 := .of (g1.trans g2)
  have M2 := M.go (g1.trans g2)
  refine q_fld M2 G2.bh cl nw rfl (eo_var rfl ((rt.kp (Kp.of G2.b)))) (by decide) fun B3 H3 es3 G3 M3 => ?_
  have B3' := G2.b.trans G3.b
  have rf3 : Rp B3 found vf := (rf.kp (Kp.of g2.b)).kp (Kp.of G3.b)
  refine q_fld M3 G3.bh cl nr rfl (eo_var rfl rf3) (by rw [l1]; decide) fun B4 H4 es4 G4 M4 => ?_
  have rf4 := rf3.kp (Kp.of G4.b)
  have B4' := B3'.trans G4.b
  refine q_fld M4 G4.bh cl nh rfl (h4 vf B4 H4 B4' rf4) l2 fun B5 H5 es5 G5 M5 => ?_
  have rf5 := rf4.kp (Kp.of G5.b)
  have B5' := B4'.trans G5.b
  refine q_fld M5 G5.bh cl np rfl (h5 vf B5 H5 B5' rf5) l3 fun B6 H6 es6 G6 M6 => ?_
  refine q_fldC M6 G6.bh cl nz np rfl (lookP text found heads (.tpd prs)) hm l4 fun B7 H7 es7 G7 M7 => ?_
  rw [putW] at M7
  exact kQ B7 H7 es7 (((((G2.trans G3).trans G4).trans G5).trans G6).trans G7) M7
end
end Dn
set_option Elab.async false
set_option linter.all false
set_option maxRecDepth 100000
set_option maxHeartbeats 2000000
namespace Dn
open PySem PySem.Spec PyProof.Rows L2
variable [CTab]
/-! ### zip of three sequences -/
def ItzY (K : PySem.W.Frag) (ka kb kc : Bool) (a b c : Addr) : It :=
  ⟨fun i H => ∃ (xs ys zs : List V) (x y z : V), SqX K H ka a xs ∧ SqX K H kb b ys ∧ SqX K H kc c zs ∧ xs[i]? = some x ∧ ys[i]? = some y ∧ zs[i]? = some z,
    fun i H v H' => ∃ T x y z, v = .ref T ∧ H T = none ∧ H' = upd H T (.tup [x, y, z]) ∧ (∀ xs, SqX K H ka a xs → xs[i]? = some x) ∧ (∀ ys, SqX K H kb b ys → ys[i]? = some y) ∧ ∀ zs, SqX K H kc c zs → zs[i]? = some z,
    fun i H => ∃ xs ys zs : List V, SqX K H ka a xs ∧ SqX K H kb b ys ∧ SqX K H kc c zs ∧ i ≤ xs.length ∧ i ≤ ys.length ∧ i ≤ zs.length ∧ (i = xs.length ∨ i = ys.length ∨ i = zs.length)⟩
theorem turn_zipY {P : Program} {w : World} {K : PySem.W.Frag} {elts : List Expr} {kk : Nat} {tpos : Pos} {ka kb kc : Bool} {a b c z TI TO i1 i2 i3 : Addr} (D : ZipSep3 z TI TO i1 i2 i3 [i1, a] [i2, b] [i3, c]) (na : a ≠ i1) (nb : b ≠ i2) (nc : c ≠ i3) :
    Turn P w K (.Tuple elts kk tpos) (ItzY K ka kb kc a b c) [z, TI, TO, i1, i2, i3] z (fun i h => IsZip h z TI TO .none ∧ IsTupOf3 h TI (.ref i1) (.ref i2) (.ref i3) ∧ (∃ x y u, IsTupOf3 h TO x y u) ∧ IterX ka h i1 a i ∧ IterX kb h i2 b i ∧ IterX kc h i3 c i) where
  mem := by simp
  obj := fun i h st q hq => by
    obtain ⟨hz, hTI, ⟨x, y, u, hTO⟩, h1, h2, h3⟩ := st
    have e' : q = z ∨ q = TI ∨ q = TO ∨ q = i1 ∨ q = i2 ∨ q = i3 := by simpa using hq
    rcases e' with q | q | q | q | q | q
    · rw [q]; exact ⟨_, hz, fun v q => nomatch q⟩
    · rw [q]; exact ⟨_, hTI, fun v q => nomatch q⟩
    · rw [q]; exact ⟨_, hTO, fun v q => nomatch q⟩
    · rw [q]; exact h1.ob
    · rw [q]; exact h2.ob
    · rw [q]; exact h3.ob
  keep := fun i h h' st k => by
    obtain ⟨hz, hTI, ⟨x, y, u, hTO⟩, h1, h2, h3⟩ := st
    exact ⟨k z (by simp) _ hz, k TI (by simp) _ hTI, ⟨x, y, u, k TO (by simp) _ hTO⟩, h1.at fun o q => k i1 (by simp) o q, h2.at fun o q => k i2 (by simp) o q, h3.at fun o q => k i3 (by simp) o q⟩
  item := by
    intro X hP hw hK hc i pins s σ H E I hf st hg
    subst hP hw hK
    obtain ⟨hz, hTI, ⟨x0, y0, u0, hTO⟩, h1, h2, h3⟩ := st
    obtain ⟨xs, ys, zs, x, y, t, hqx, hqy, hqz, hx, hy, ht⟩ := hg
    obtain ⟨its, rv, p, la⟩ := sqx_of I hqx
    obtain ⟨its2, rv2, p2, lb⟩ := sqx_of I hqy
    obtain ⟨its3, rv3, p3, lc⟩ := sqx_of I hqz
    obtain ⟨u, hu, ru⟩ := rv.get hx
    obtain ⟨u2, hu2, ru2⟩ := rv2.get hy
    obtain ⟨u3, hu3, ru3⟩ := rv3.get ht
    have hzl : z < s.heap.objs.size := Heap.lt_size hz
    have hh : X.A.in1.handled = none := I.ok.hd hc
    have hi1 : i < its.toArray.size := by simpa using (List.getElem?_eq_some_iff.mp hu).1
    have hi2 : i < its2.toArray.size := by simpa using (List.getElem?_eq_some_iff.mp hu2).1
    have hi3 : i < its3.toArray.size := by simpa using (List.getElem?_eq_some_iff.mp hu3).1
    refine wpAny_pyNext_zipD3_item D (drawsX hh ka i1 a na its.toArray) (drawsX hh kb i2 b nb its2.toArray) (drawsX hh kc i3 c nc its3.toArray) hz hTI hTO ⟨h1, p⟩ ⟨h2, p2⟩ ⟨h3, p3⟩ hi1 hi2 hi3 fun x1 x2 x3 h' tk e1 e2 e3 z' TO' st1' st2' st3' hT hsz hk => ?_
    have ex1 : x1 = u := by
      have : its[i]? = some x1 := by simpa using e1
      rw [hu] at this; cases this; rfl
    have ex2 : x2 = u2 := by
      have : its2[i]? = some x2 := by simpa using e2
      rw [hu2] at this; cases this; rfl
    have ex3 : x3 = u3 := by
      have : its3[i]? = some x3 := by simpa using e3
      rw [hu3] at this; cases this; rfl
    subst ex1 ex2 ex3
    refine ⟨_, rfl, wpAny_letOwnedTupleGo_zip (s := { s with heap := h', toks := tk }) z' fun h'' z'' sb => ?_⟩
    have hT2 : h''.get? s.heap.objs.size = some { cls := .type "tuple", data := .seq #[x1, x2, x3] } := (sb.2 _ (Nat.ne_of_gt hzl)).trans hT
    have new : ObjOk X.prog X.w (upd H s.heap.objs.size (.tup [x, y, t])) h'' s.heap.objs.size (.tup [x, y, t]) :=
      ⟨by show 3 ≤ sizeLine; decide, [x1, x2, x3], .cons ru (.cons ru2 (.cons ru3 .nil)), ⟨_, hT2, rfl, _, rfl⟩⟩
    have I1 : Inv X pins σ (upd H s.heap.objs.size (.tup [x, y, t])) { s with heap := h'', toks := tk } :=
      I.turnedNew (t' := tk) (ch := [z, TI, TO, i1, i2, i3]) (fun c o hb q => (sb.2 c (fun q' => hb (by simp [q']))).trans (hk c o (fun q' => hb (by simp [q'])) (fun q' => hb (by simp [q'])) (fun q' => hb (by simp [q'])) (fun q' => hb (by simp [q'])) (fun q' => hb (by simp [q'])) q)) hf (Nat.le_refl _) new
    refine ⟨.ref s.heap.objs.size, _, I1, rfl, ⟨_, x, y, t, rfl, I.hok.fresh (Nat.le_refl _), rfl, fun l hl => by rw [sqx_inj I hl hqx]; exact hx, fun l hl => by rw [sqx_inj I hl hqy]; exact hy, fun l hl => by rw [sqx_inj I hl hqz]; exact ht⟩, ⟨z'', ?_, ⟨x1, x2, x3, ?_⟩, ?_, ?_, ?_⟩, fun c hcm => ?_⟩
    · exact (sb.2 _ D.TIz).trans (hk _ _ D.TIz D.TITO D.TIi1 D.TIi2 D.TIi3 hTI)
    · exact (sb.2 _ D.TOz).trans TO'
    · exact st1'.1.at fun o q => (sb.2 _ D.zi1.symm).trans q
    · exact st2'.1.at fun o q => (sb.2 _ D.zi2.symm).trans q
    · exact st3'.1.at fun o q => (sb.2 _ D.zi3.symm).trans q
    · have hlt : c < s.heap.objs.size := by
        have e' : c = z ∨ c = TI ∨ c = TO ∨ c = i1 ∨ c = i2 ∨ c = i3 := by simpa using hcm
        rcases e' with q | q | q | q | q | q
        · rw [q]; exact hzl
        · rw [q]; exact Heap.lt_size hTI
        · rw [q]; exact Heap.lt_size hTO
        · rw [q]; obtain ⟨_, e1, _⟩ := h1.ob; exact Heap.lt_size e1
        · rw [q]; obtain ⟨_, e2, _⟩ := h2.ob; exact Heap.lt_size e2
        · rw [q]; obtain ⟨_, e3, _⟩ := h3.ob; exact Heap.lt_size e3
      rw [upd_ne (Nat.ne_of_lt hlt)]
      exact (hf c hcm).1
  done := by
    intro X hP hw hK hc i pins s σ H E I hf st hg
    subst hP hw hK
    obtain ⟨hz, hTI, ⟨x0, y0, u0, hTO⟩, h1, h2, h3⟩ := st
    obtain ⟨xs, ys, zs, hqx, hqy, hqz, hle1, hle2, hle3, hend⟩ := hg
    obtain ⟨its, rv, p, _⟩ := sqx_of I hqx
    obtain ⟨its2, rv2, p2, _⟩ := sqx_of I hqy
    obtain ⟨its3, rv3, p3, _⟩ := sqx_of I hqz
    have l1 := rv.length
    have l2 := rv2.length
    have l3 := rv3.length
    have hh : X.A.in1.handled = none := I.ok.hd hc
    exact wpAny_pyNext_zipD3_end D (drawsX hh ka i1 a na its.toArray) (drawsX hh kb i2 b nb its2.toArray) (drawsX hh kc i3 c nc its3.toArray) hz hTI hTO ⟨h1, p⟩ ⟨h2, p2⟩ ⟨h3, p3⟩ (by simp; omega) (by simp; omega) (by simp; omega) (by simp; omega) fun h' tk hk => ⟨rfl, I.turnedL (t' := tk) (ch := [z, TI, TO, i1, i2, i3]) (fun c o hb q =>
      hk c o (fun q' => hb (by simp [q'])) (fun q' => hb (by simp [q'])) (fun q' => hb (by simp [q'])) (fun q' => hb (by simp [q'])) (fun q' => hb (by simp [q'])) q) hf⟩
  self := fun A i s Q E st h => wpAny_pyIter_zip st.1 h
def iZip3 (K : PySem.W.Frag) (ta : TA) : TI := fun σ H R => ta σ H fun vs H1 => ∃ ka kb kc a b c xs ys zs, vs = [.ref a, .ref b, .ref c] ∧ SqX K H1 ka a xs ∧ SqX K H1 kb b ys ∧ SqX K H1 kc c zs ∧ R (ItzY K ka kb kc a b c) H1
theorem pi_zip3 {X : Cx} {K : PySem.W.Frag} {e e2 e3 : Expr} {ta tb tc : TE} {p pos tpos : Pos} {elts : List Expr} {kk : Nat} (hK : X.K = K) (hg : Gl X "zip") (hm : X.mg "zip" = none) (h1 : PE X e ta) (h2 : PE X e2 tb) (h3 : PE X e3 tc)
    (he1 : starEach [e, e2, e3] X.env = (false, eval e X.env) :: starEach [e2, e3] X.env := by rfl) (he2 : starEach [e2, e3] X.env = (false, eval e2 X.env) :: starEach [e3] X.env := by rfl) (he3 : starEach [e3] X.env = (false, eval e3 X.env) :: starEach [] X.env := by rfl) (hpl : (backTo pos (starEach [e2, e3] X.env)).any (·.1) = false := by rfl) :
    PI X (.Tuple elts kk tpos) (.Call (.Name "zip" p) [e, e2, e3] [] pos) (iZip3 K (tCons ta (tCons tb (tCons tc tNil)))) := by
  subst hK
  have ha : PA X [e, e2, e3] (tCons ta (tCons tb (tCons tc tNil))) := pa_cons h1 (pa_cons h2 (pa_cons h3 pa_nil he3) he2) he1
  refine ⟨fun pins s σ H R I h => ?_⟩
  refine Call_ (ld_blt I hg hm PyProof.Rows.boot_zip (PyProof.Rows.callWith_type1 (thn (ha.run pos pins s σ H _ I h) fun us s1 ⟨vs, H1, I1, r1, q1⟩ => ?_) he1 hpl))
  obtain ⟨ka, kb, kc, a, b, c, xs, ys, zs, ex, hqx, hqy, hqz, q⟩ := q1
  subst ex
  cases r1 with
  | cons r rr =>
    cases rr with
    | cons r' rr =>
     cases rr with
     | cons r'' rr =>
      cases rr
      cases r
      cases r'
      cases r''
      obtain ⟨its, rv, p1, la⟩ := sqx_of I1 hqx
      obtain ⟨its2, rv2, p2, lb⟩ := sqx_of I1 hqy
      obtain ⟨its3, rv3, p3, lc⟩ := sqx_of I1 hqz
      obtain ⟨o1, b1, it1⟩ := beginsX ka a its.toArray
      obtain ⟨o2, b2, it2⟩ := beginsX kb b its2.toArray
      obtain ⟨o3, b3, it3⟩ := beginsX kc c its3.toArray
      refine zip_begins3 b1 b2 b3 p1 p2 p3 fun h' hz hTI hTO g1 g2 g3 hsz hk => wpAny_pyIter_zip hz ?_
      have I2 : Inv X pins σ H1 { s1 with heap := h' } := I1.kept (t' := s1.toks) hk
      refine ⟨s1.heap.objs.size + 5, [s1.heap.objs.size + 5, s1.heap.objs.size + 3, s1.heap.objs.size + 4, s1.heap.objs.size, s1.heap.objs.size + 1, s1.heap.objs.size + 2], _, _, H1, rfl, I2,
        turn_zipY (zip_sep3 (fp1 := [a]) (fp2 := [b]) (fp3 := [c]) (by simpa using la) (by simpa using lb) (by simpa using lc)) (Nat.ne_of_lt la) (Nat.ne_of_lt (Nat.lt_succ_of_lt lb)) (Nat.ne_of_lt (Nat.lt_succ_of_lt (Nat.lt_succ_of_lt lc))), ⟨hz, hTI, ⟨_, _, _, hTO⟩, it1 _ _ g1, it2 _ _ g2, it3 _ _ g3⟩, fun c hcm => ?_, q⟩
      have e' : c = s1.heap.objs.size + 5 ∨ c = s1.heap.objs.size + 3 ∨ c = s1.heap.objs.size + 4 ∨ c = s1.heap.objs.size ∨ c = s1.heap.objs.size + 1 ∨ c = s1.heap.objs.size + 2 := by simpa using hcm
      have hle : s1.heap.objs.size ≤ c := by
        rcases e' with z | z | z | z | z | z
        · rw [z]; exact Nat.le_add_right _ _
        · rw [z]; exact Nat.le_add_right _ _
        · rw [z]; exact Nat.le_add_right _ _
        · rw [z]; exact Nat.le_refl _
        · rw [z]; exact Nat.le_add_right _ _
        · rw [z]; exact Nat.le_add_right _ _
      exact I1.fpOk hle (I1.hok.fresh hle)
def zipL3 : List U → List U → List U → List U
  | x :: xs, y :: ys, z :: zs => .tup [x, y, z] :: zipL3 xs ys zs
  | _, _, _ => []
theorem zipL3_length : ∀ (xs ys zs : List U), (zipL3 xs ys zs).length = min xs.length (min ys.length zs.length)
  | [], _, _ => by simp [zipL3]
  | _ :: _, [], _ => by simp [zipL3]
  | _ :: _, _ :: _, [] => by simp [zipL3]
  | x :: xs, y :: ys, z :: zs => by simp only [zipL3, List.length_cons, zipL3_length xs ys zs]; omega
theorem zipL3_get : ∀ {xs ys zs : List U} {i : Nat} {x y z : U}, xs[i]? = some x → ys[i]? = some y → zs[i]? = some z → (zipL3 xs ys zs)[i]? = some (.tup [x, y, z])
  | [], _, _, i, x, y, z, h, _, _ => by simp at h
  | _ :: _, [], _, i, x, y, z, _, h, _ => by simp at h
  | _ :: _, _ :: _, [], i, x, y, z, _, _, h => by simp at h
  | a :: xs, b :: ys, c :: zs, 0, x, y, z, h, h', h'' => by simp at h h' h''; subst h h' h''; rfl
  | a :: xs, b :: ys, c :: zs, i + 1, x, y, z, h, h', h'' => by
    have := zipL3_get (xs := xs) (ys := ys) (zs := zs) (i := i) (x := x) (y := y) (z := z) (by simpa using h) (by simpa using h') (by simpa using h'')
    simpa [zipL3] using this
def zip3S (F G L : SM U) : SM (List U) := bindS F fun x => bindS G fun y => bindS L fun z => pureS (x.items.bind fun xs => y.items.bind fun ys => z.items.map fun zs => zipL3 xs ys zs)
section
variable {M : Addr → Prop} {ps : List Addr} {σ : L2.St} {B H : Hp} {ta tb tc : TE} {F G L : SM U} {K : PySem.W.Frag}
theorem eis_zip3 (ha : EvS M ps σ B ta F) (hb : EvS M ps σ B tb G) (hc : EvS M ps σ B tc L) : EvIS M ps σ B (iZip3 K (tCons ta (tCons tb (tCons tc tNil)))) (zip3S F G L) := fun us zs us' e B1 H1 g w R q => by
  obtain ⟨x, us1, ex, e⟩ := bindS_some e
  obtain ⟨y, us2, ey, e⟩ := bindS_some e
  obtain ⟨z, us3, ez, e⟩ := bindS_some e
  obtain ⟨ee, rfl⟩ := pureS_some e; clear e
  obtain ⟨xs, exs, ee⟩ := bind_some ee
  obtain ⟨ys, eys, ee⟩ := bind_some ee
  obtain ⟨ts, ets, ee⟩ := map_some ee
  subst ee
  refine ha _ _ _ ex B1 H1 g w _ fun v B2 H2 g2 r2 w2 => hb _ _ _ ey B2 H2 (g.trs g2) w2 _ fun v' B3 H3 g3 r3 w3 => hc _ _ _ ez B3 H3 ((g.trs g2).trs g3) w3 _ fun v'' B4 H4 g4 r4 w4 => ?_
  obtain ⟨ka, a, vs, rfl, ra, sa⟩ := sqx_items (K := K) exs ((r2.upA g3.at).upA g4.at)
  obtain ⟨kb, b, ws, rfl, rb, sb⟩ := sqx_items (K := K) eys (r3.upA g4.at)
  obtain ⟨kc, c, zs, rfl, rc, sc⟩ := sqx_items (K := K) ets r4
  refine ⟨ka, kb, kc, a, b, c, vs, ws, zs, rfl, sa H4 g4.bh, sb H4 g4.bh, sc H4 g4.bh, q _ B4 H4 ((g2.trans g3).trans g4) ?_ w4⟩
  have l1 := ra.length
  have l2 := rb.length
  have l3 := rc.length
  have hl := zipL3_length xs ys ts
  refine ⟨fun i H' hi s => ?_, fun H' s => ?_, fun i H' v H'' B' hi s1 s2 y => ?_⟩
  · have h1 : i < vs.length := by omega
    have h2 : i < ws.length := by omega
    have h3 : i < zs.length := by omega
    exact ⟨vs, ws, zs, vs[i], ws[i], zs[i], sa H' s, sb H' s, sc H' s, by simp [h1], by simp [h2], by simp [h3]⟩
  · rw [hl]
    exact ⟨vs, ws, zs, sa H' s, sb H' s, sc H' s, by omega, by omega, by omega, by omega⟩
  · obtain ⟨T, x1, y1, z1, e1, e2, e3, f1, f2, f3⟩ := y
    subst e1 e3
    obtain ⟨u1, eu1, ru1⟩ := ra.back (f1 vs (sa H' (s1.trans s2)))
    obtain ⟨u2, eu2, ru2⟩ := rb.back (f2 ws (sb H' (s1.trans s2)))
    obtain ⟨u3, eu3, ru3⟩ := rc.back (f3 zs (sc H' (s1.trans s2)))
    exact ⟨_, _, Go.new s2 e2, zipL3_get eu1 eu2 eu3, .tup upd_same ((Rps.cons (ru1.kp (Kp.of s1)) (.cons (ru2.kp (Kp.of s1)) (.cons (ru3.kp (Kp.of s1)) .nil))).new s2 e2)⟩
end
end Dn
set_option Elab.async false
set_option linter.all false
set_option maxRecDepth 100000
set_option maxHeartbeats 2000000
namespace Dn
open PySem PySem.Spec PyProof.Rows L2
section
variable {X : Cx}
/-! ### str(x) of a text or an int -/
def rStrB : List V → Hp → VK → Prop := fun xs H Q => (∃ a, xs = [V.str a] ∧ Q (.str a) H) ∨ ∃ i : Int, xs = [V.int i] ∧ i.natAbs.log2 < 1920 ∧ Q (.str (toString i)) H
theorem call_strB [CTab] : CallR X (.type "str") rStrB := CallR.or SkE.call_str_str call_str_int
/-! ### t.index(x), a known tuple -/
theorem pe_tidx {o e : Expr} {apos cpos : Pos} {to : TE} {t : TA} (hu : X.A.units + 64 < cLine) (ho : PE X o to) (ha : PA X [e] t) (hbase : attributeBase o "index" X.env (eval o X.env) = eval o X.env := by rfl)
    (hfew : ((backTo cpos (starEach [e] X.env)).all (fun x => !x.1) && (backToKw cpos (keywordEach [] X.env)).all (fun x => x.1.isSome)
      && decide ([e].length + ([] : List Keyword).length + (if ([] : List Keyword).isEmpty then 0 else 1) < 30)) = true := by rfl)
    (hline : (apos.endLine == cpos.line) = true := by rfl) (hs : starEach [e] X.env = (false, eval e X.env) :: starEach [] X.env := by rfl) (hplain : (backTo cpos (starEach [] X.env)).any (·.1) = false := by rfl) [CTab] :
    PE X (.Call (.Attribute o "index" apos) [e] [] cpos) (tTM rTIdx to t) := pe_tm PySem.F.slot_tuple_index PySem.F.type_tuple_index (mt_tidx hu) ho ha hbase hfew hline hs hplain
/-! ### a property -/
theorem pe_propK {K : PySem.W.Frag} {CX : CXT} {k : Nat} {C p g : Addr} {f : Str} {fd : FuncData} {ps : List Str} {sp : Sp} {E : XK} {e : Expr} {pos : Pos} {ta : TE} (hK : X.K = K) (he : PE X e ta) (c : Cls K C) (hp : PropOf K C f p g) (F : FnOk X.prog X.w X.K X.mg X.base CX k g fd ps sp) (hr : Room (k + 1) X.A) (hb : Binds K fd ps [])
    (hx : Passes CX X.nox E) (hab : attributeBase e f X.env (eval e X.env) = eval e X.env := by rfl) : PE X (.Attribute e f pos) (tProp C sp [] E ta) := by
  subst hK
  exact pe_prop he c hp F hr hb .nil hx hab
end
variable [CTab]
def strBV : U → Option U
  | .str s => some (.str s)
  | .int i => if i.natAbs.log2 < 1920 then some (.str (toString i)) else none
  | _ => none
theorem rc_strB : RC rStrB (c1 strBV) := rc_one c1_one fun x z e v B H s rx Q q => by
  cases rx with
  | str a => cases e; exact .inl ⟨a, rfl, q _ B H (Go.refl s) (.str a)⟩
  | int i =>
    have e5 : (if i.natAbs.log2 < 1920 then some (U.str (toString i)) else none) = some z := e
    clear e
    split at e5
    · rename_i h
      cases e5
      exact .inr ⟨i, rfl, h, q _ B H (Go.refl s) (.str _)⟩
    · cases e5
  | _ => cases e
/-! ### f'..' -/
def fmtV : U → Option U
  | .str y => if y.length ≤ lim then some (.str y) else none
  | .int i => if i.natAbs.log2 < 1920 then some (.str (toString i)) else none
  | _ => none
section
variable {σ : L2.St} {B H : Hp} {ta : TE} {oa : Option U}
theorem eo_fmt (h : EvO ta σ B H oa) : EvO (tFmt ta) σ B H (op1 fmtV oa) := fun z e B1 H1 g Q q => by
  obtain ⟨x, ex, e⟩ := bind_some e
  refine h x ex B1 H1 g _ fun v B2 H2 g2 r => ?_
  cases r with
  | str y =>
    have e5 : (if y.length ≤ lim then some (U.str y) else none) = some z := e
    clear e
    split at e5
    · rename_i hy
      cases e5
      exact .inl ⟨y, rfl, lim_size hy, q _ B2 H2 g2 (.str y)⟩
    · cases e5
  | int i =>
    have e5 : (if i.natAbs.log2 < 1920 then some (U.str (toString i)) else none) = some z := e
    clear e
    split at e5
    · rename_i h
      cases e5
      exact .inr ⟨i, rfl, h, q _ B2 H2 g2 (.str _)⟩
    · cases e5
  | _ => cases e
inductive Jo (σ : L2.St) (B H : Hp) : List TE → List (Option U) → Prop
  | nil : Jo σ B H [] []
  | cons {t : TE} {o : Option U} {ts : List TE} {os : List (Option U)} : EvO t σ B H o → Jo σ B H ts os → Jo σ B H (t :: ts) (o :: os)
def joinO : List (Option U) → Str → Option U
  | [], acc => some (.str acc)
  | o :: os, acc => o.bind fun u => u.asS.bind fun y => if (acc ++ y).length ≤ lim then joinO os (acc ++ y) else none
theorem jo_run : ∀ {ts : List TE} {os : List (Option U)}, Jo σ B H ts os → ∀ (acc : Str) (z : U), joinO os acc = some z → ∀ B1 H1, At B B1 H1 → ∀ Q : VK, (∀ v B2 H2, Go B1 H1 B2 H2 → Rp B2 z v → Q v H2) → tJs ts acc σ H1 fun out H2 => Q (.str out) H2
  | _, _, .nil, acc, z, e, B1, H1, g, Q, q => by
    cases e
    exact q _ B1 H1 (Go.refl g.bh) (.str acc)
  | _, _, .cons h t, acc, z, e, B1, H1, g, Q, q => by
    obtain ⟨u, eu, e⟩ := bind_some e
    obtain ⟨y, ey, e6⟩ := bind_some e
    clear e
    split at e6
    · rename_i hl
      refine h u eu B1 H1 g _ fun v B2 H2 g2 r => ?_
      cases u <;> cases ey
      cases r
      exact ⟨y, rfl, lim_size hl, jo_run t _ z e6 B2 H2 (g.trans g2) Q fun v B3 H3 g3 r3 => q v B3 H3 (g2.trans g3) r3⟩
    · cases e6
theorem eo_joined {ts : List TE} {os : List (Option U)} (h : Jo σ B H ts os) : EvO (fun σ H Q => tJs ts Str.empty σ H fun out H1 => Q (.str out) H1) σ B H (joinO os Str.empty) := fun z e B1 H1 g Q q =>
  jo_run h Str.empty z e B1 H1 g Q q
/-- {} kept for good -/
theorem eo_dnil : EvO (tFrz tDNewK) σ B H (some (.dic [])) := fun z e B1 H1 g Q q p hp => by
  cases e
  refine ⟨p, _, rfl, upd_same, trivial, fun od => ?_⟩
  have e0 : upd (upd H1 p (.dK [])) p (.frz od (.dK [])) = upd H1 p (.frz od (.dK [])) := by
    funext a
    by_cases h : a = p
    · subst h; rw [upd_same, upd_same]
    · rw [upd_ne h, upd_ne h, upd_ne h]
  rw [e0]
  exact q _ _ _ (Go.new g.bh hp) (.dic upd_same .nil)
/-- the end of a def without a return -/
theorem q_fall {B0 H0 : Hp} {r : U} {Q : VK} (e : some U.non = some r) (g : Go B0 H0 B H) (k : ∀ v B2 H2, Go B0 H0 B2 H2 → Rp B2 r v → Q v H2) : Q .non H := by
  cases e
  exact k .non B H g .non
end
end Dn
set_option Elab.async false
set_option linter.all false
set_option maxRecDepth 100000
set_option maxHeartbeats 2000000
namespace Dn
open PySem PySem.Spec PyProof.Rows L2
variable [CTab]
theorem g_unp3S {α : Type} {R : α × List U} {K : PySem.W.Frag} {u : U} {v : V} {B H : Hp} {σ : L2.St} {Q : L2.St → Hp → Prop} {i0 i1 i2 : Nat} {f : U → U → U → SM α} {us : List U} (s : Same B H) (r : Rp B u v) (e : unpS3 u f us = some R)
    (k : ∀ a b c x y z, Rp B a x → Rp B b y → Rp B c z → f a b c us = some R → Q (((σ.set i0 (some x)).set i1 (some y)).set i2 (some z)) H) : gAnyT K 3 (gCons (gName i0) (gCons (gName i1) (gCons (gName i2) gNil))) v σ H Q := by
  obtain ⟨⟨a, b, c⟩, eu, e⟩ := bind_some e
  exact g_unp3 s r eu fun x y z ra rb rc => k a b c x y z ra rb rc e
/-- one's own list, kept for good from here on -/
theorem q_keepS {α : Type} {R : α × List U} {β : Bs} {B H : Hp} {ps : List Addr} {us : List U} {j : Nat} {p : Addr} {f : U → SM α} {G : Prop} (W : Wh β B H ps us) (hp : ps[j]? = some p) (e : bindS (takeS j) f us = some R)
    (k : ∀ x B1 us1, Wh β B1 H ps us1 → Same B B1 → Rp B1 x (.ref p) → f x us1 = some R → G) : G := by
  obtain ⟨z, us', ez, e⟩ := bindS_some e
  unfold takeS at ez
  split at ez
  · rename_i xs eu
    cases ez
    have wp := W.w.at_ j p _ hp eu
    obtain ⟨hb, vs, e1, r⟩ := wp.own rfl
    have s1 : Same B (upd B p (.lst vs)) := same_lock hb
    have sb : Same (upd B p (.lst vs)) H := fun b x hx => by
      by_cases hbp : b = p
      · subst hbp; rw [upd_same] at hx; rw [e1]; exact hx
      · rw [upd_ne hbp] at hx; exact W.s b x hx
    refine k _ (upd B p (.lst vs)) _ (W.step ⟨fun a o e _ => e, fun a e => e, s1, sb, fun a o e => ?_⟩ ?_) s1 (.lst upd_same (r.kp (Kp.of s1))) e
    · by_cases ha : a = p
      · subst ha; exact .inr (.inr (List.mem_of_getElem? hp))
      · rw [upd_ne ha] at e; exact .inl e
    · exact W.w.set hp (fun q _ _ o e => e) s1 (fun q _ hq hn => by rw [upd_ne hq]; exact hn) ⟨wp.m, ⟨_, e1⟩, .inl rfl⟩
  · cases ez
end Dn
set_option Elab.async false
set_option linter.all false
set_option maxRecDepth 100000
set_option maxHeartbeats 2000000
namespace Dn
open PySem PySem.Spec PyProof.Rows L2
/-! ### a text times a number -/
def repS (z : Str) (n : Nat) : Str := ⟨(List.replicate n z.cps).foldl (· ++ ·) #[]⟩
def rMulS : R2 := fun x y H Q => ∃ (z : Str) (n : Int), x = .str z ∧ y = .int n ∧ 2 ≤ n ∧ n ≤ 1000 ∧ 0 < z.length ∧ z.length * n.toNat ≤ 100000 ∧ Q (.str (repS z n.toNat)) H
theorem fold_size : ∀ (n : Nat) (a : Array Nat) (acc : Array Nat), ((List.replicate n a).foldl (· ++ ·) acc).size = acc.size + a.size * n
  | 0, a, acc => by simp
  | n + 1, a, acc => by
    rw [List.replicate_succ, List.foldl_cons, fold_size n a]
    simp only [Array.size_append, Nat.mul_add]
    omega
section
variable {X : Cx}
theorem op_mulS : OpR X (binaryOp .Mult) rMulS := by
  intro pins s σ H x y v u Q I rx ry h
  obtain ⟨z, n, rfl, rfl, h1, h2, h3, h4, q⟩ := h
  obtain ⟨t, rfl⟩ := rx
  obtain ⟨t', rfl⟩ := ry
  have n1 : ¬ n < 1 := by omega
  have n2 : ¬ (n == 1 || z.length == 0) = true := by
    simp only [Bool.or_eq_true, beq_iff_eq, not_or]
    omega
  have hl : z.length ≤ 100000 := Nat.le_trans (Nat.le_mul_of_pos_right _ (by omega)) h4
  refine PySem.P.mul_str ?_ (fun _ _ => ?_) (fun _ _ => ?_) ?_
  · rw [decide_eq_false (by omega), decide_eq_false (by omega)]; rfl
  · have : (100000 : Int) ≤ (2 ^ 63 - 1) / n := by
      refine Int.le_ediv_of_mul_le (by omega) ?_
      have : 100000 * n ≤ 100000 * 1000 := by omega
      omega
    omega
  · have : z.length * n.toNat ≤ sizeLine := Nat.le_trans h4 (by decide)
    exact decide_eq_false (by omega)
  · rw [if_neg n1, if_neg n2]
    refine ⟨?_, .str (repS z n.toNat), H, I.tok _, ⟨_, rfl⟩, q⟩
    show ((List.replicate n.toNat z.cps).foldl (· ++ ·) #[]).size ≤ sizeLine
    rw [fold_size]
    have : z.cps.size * n.toNat ≤ 100000 := h4
    have : (100000 : Nat) ≤ sizeLine := by decide
    simp only [Array.size_empty] <;> omega
end
variable [CTab]
def mulSV : U → U → Option U
  | .str z, .int n => if 2 ≤ n ∧ n ≤ 1000 ∧ 0 < z.length ∧ z.length * n.toNat ≤ 100000 then some (.str (repS z n.toNat)) else none
  | _, _ => none
theorem rv_mulS : RV rMulS mulSV := fun x y z e v w B H s rx ry Q q => by
  cases rx with
  | str a =>
    cases ry with
    | int n =>
      have e5 : (if 2 ≤ n ∧ n ≤ 1000 ∧ 0 < a.length ∧ a.length * n.toNat ≤ 100000 then some (U.str (repS a n.toNat)) else none) = some z := e
      clear e
      split at e5
      · rename_i h
        cases e5
        exact ⟨a, n, rfl, rfl, h.1, h.2.1, h.2.2.1, h.2.2.2, q _ B H (Go.refl s) (.str _)⟩
      · cases e5
    | _ => cases e
  | _ => cases e
end Dn
set_option Elab.async false
set_option linter.all false
set_option maxRecDepth 100000
set_option maxHeartbeats 2000000
namespace Dn
open PySem PySem.Spec PyProof.Rows L2
/-! ### data that repr shows in little room -/
structure Sh (u : U) (d : PyData) (k n : Nat) : Prop where
  py : u.py = some d
  sh : d.showable = true
  nd : d.hasDict = false
  dp : d.depth ≤ k
  lv : d.leavesShort 8 = true
  wt : d.weight ≤ n
structure Shs (us : List U) (ds : List PyData) (k n : Nat) : Prop where
  py : U.pys us = some ds
  sh : PyData.showableAll ds = true
  nd : PyData.hasDictAll ds = false
  dp : PyData.depthAll ds ≤ k
  lv : PyData.leavesShortAll 8 ds = true
  wt : PyData.weightAll ds ≤ n
theorem Sh.str {s : Str} {n : Nat} (h : ∀ c ∈ s.cps.toList, c < 16 ^ 8) (hl : s.length ≤ n) : Sh (.str s) (.str s) 0 n :=
  ⟨by simp [U.py], by simp [PyData.showable], by simp [PyData.hasDict], by simp [PyData.depth], by simp only [PyData.leavesShort, List.all_eq_true, decide_eq_true_eq]; exact h, by simp only [PyData.weight]; exact hl⟩
theorem Sh.bl {b : Bool} : Sh (.bl b) (.bool b) 0 0 := ⟨by simp [U.py], by simp [PyData.showable], by simp [PyData.hasDict], by simp [PyData.depth], by simp [PyData.leavesShort], by simp [PyData.weight]⟩
theorem Sh.non : Sh .non .none 0 0 := ⟨by simp [U.py], by simp [PyData.showable], by simp [PyData.hasDict], by simp [PyData.depth], by simp [PyData.leavesShort], by simp [PyData.weight]⟩
theorem Sh.mono {u : U} {d : PyData} {k n k' n' : Nat} (h : Sh u d k n) (hk : k ≤ k') (hn : n ≤ n') : Sh u d k' n' := ⟨h.py, h.sh, h.nd, Nat.le_trans h.dp hk, h.lv, Nat.le_trans h.wt hn⟩
theorem Shs.mono {u : List U} {d : List PyData} {k n k' n' : Nat} (h : Shs u d k n) (hk : k ≤ k') (hn : n ≤ n') : Shs u d k' n' := ⟨h.py, h.sh, h.nd, Nat.le_trans h.dp hk, h.lv, Nat.le_trans h.wt hn⟩
theorem Shs.nil {k : Nat} : Shs [] [] k 0 := ⟨by simp [U.pys], by simp [PyData.showableAll], by simp [PyData.hasDictAll], by simp [PyData.depthAll], by simp [PyData.leavesShortAll], by simp [PyData.weightAll]⟩
theorem Shs.cons {u : U} {d : PyData} {us : List U} {ds : List PyData} {k m n : Nat} (h : Sh u d k m) (t : Shs us ds k n) : Shs (u :: us) (d :: ds) k (m + 1 + n) := by
  refine ⟨by simp [U.pys, h.py, t.py], by simp [PyData.showableAll, h.sh, t.sh], by simp [PyData.hasDictAll, h.nd, t.nd], ?_, by simp [PyData.leavesShortAll, h.lv, t.lv], ?_⟩
  · have := h.dp
    have := t.dp
    simp only [PyData.depthAll]
    omega
  · have := h.wt
    have := t.wt
    simp only [PyData.weightAll]
    omega
theorem Sh.tup {us : List U} {ds : List PyData} {k n : Nat} (t : Shs us ds k n) : Sh (.tup us) (.tuple ds) (k + 1) n := by
  refine ⟨by simp [U.py, t.py], by simp [PyData.showable, t.sh], by simp [PyData.hasDict, t.nd], ?_, by simp [PyData.leavesShort, t.lv], ?_⟩
  · have := t.dp; simp only [PyData.depth]; omega
  · have := t.wt; simp only [PyData.weight]; omega
theorem Sh.tpd {us : List U} {ds : List PyData} {k n : Nat} (t : Shs us ds k n) : Sh (.tpd us) (.tuple ds) (k + 1) n := by
  refine ⟨by simp [U.py, t.py], by simp [PyData.showable, t.sh], by simp [PyData.hasDict, t.nd], ?_, by simp [PyData.leavesShort, t.lv], ?_⟩
  · have := t.dp; simp only [PyData.depth]; omega
  · have := t.wt; simp only [PyData.weight]; omega
theorem Sh.lst {us : List U} {ds : List PyData} {k n : Nat} (t : Shs us ds k n) : Sh (.lst us) (.list ds) (k + 1) n := by
  refine ⟨by simp [U.py, t.py], by simp [PyData.showable, t.sh], by simp [PyData.hasDict, t.nd], ?_, by simp [PyData.leavesShort, t.lv], ?_⟩
  · have := t.dp; simp only [PyData.depth]; omega
  · have := t.wt; simp only [PyData.weight]; omega
theorem Shs.map {α : Type} {g : α → U} {h : α → PyData} {k m : Nat} : ∀ (l : List α), (∀ a ∈ l, Sh (g a) (h a) k m) → Shs (l.map g) (l.map h) k (l.length * (m + 1))
  | [], _ => Shs.nil.mono (Nat.le_refl _) (Nat.zero_le _)
  | a :: l, hh => by
    have ih := Shs.map l fun x hx => hh x (List.mem_cons_of_mem _ hx)
    refine (Shs.cons (hh a (List.mem_cons_self ..)) ih).mono (Nat.le_refl _) ?_
    rw [List.length_cons, Nat.add_mul, Nat.one_mul]
    omega
theorem Sh.repr {u : U} {d : PyData} {k n : Nat} (h : Sh u d k n) (hk : k ≤ 40) (hn : n ≤ 9000) : callO (c1 reprV) (consO (some u) (some [])) = some (.str d.shown) := by
  show reprV u = _
  unfold reprV
  have h1 := PyData.shown_le 8 (by decide) d h.lv
  have h2 := h.wt
  have hlim : lim = 100000 := rfl
  have h3 : (8 + 2) * d.weight ≤ 10 * 9000 := Nat.mul_le_mul (by decide) (by omega)
  have h4 : d.shown.length ≤ lim := by omega
  rw [h.py, Option.bind_some, if_pos ⟨h.sh, h.nd, Nat.le_trans h.dp hk, h4⟩]
end Dn
set_option Elab.async false
set_option linter.all false
set_option maxRecDepth 100000
set_option maxHeartbeats 2000000
namespace Dn
open PySem PySem.Spec PyProof.Rows L2
variable [CTab]
/-! ### enumerate of a list or a tuple -/
set_option maxHeartbeats 4000000 in
theorem meets_enum1 {v : Value} {o : Obj} {H : Heap → Prop} (B : Begins v o H) :
    Meets (Builtin.«enumerate.__new__» ⟨[.type "enumerate", v], []⟩) (fun _ R s => H s.heap ∧
      R (.ok (.ret (.ref (s.heap.push o).objs.size))) { s with heap := (s.heap.push o).push { cls := .type "enumerate", data := .fields #[.none, .bool false, .ref s.heap.objs.size, rawInt 0, .none, .none] } }) :=
  .of_wp fun prog w A R s h => by
    obtain ⟨hp, g, d, tk, os⟩ := s; obtain ⟨h1, h⟩ := h
    have hsub := sub_enumerate
    have q1 : ∀ {A' : Around} {E : Value → Shared → Prop} {Q : Value → Shared → Prop}, Q (.ref hp.objs.size) ⟨hp.push o, g, d, tk, os⟩ → wpAny (model prog w) A' (pyIter v) Q E ⟨hp, g, d, tk, os⟩ :=
      fun q => B.iter prog w _ _ ⟨hp, g, d, tk, os⟩ _ h1 q
    wp_walk using q1
    refine wpAny_stack_any fun st => wpAny_pure ?_
    split
    · rename_i c _ _ _ _ _
      cases (c == Value.type "enumerate")
      · wp_walk using q1
        exact ⟨_, rfl, h⟩
      · wp_walk using q1
        exact ⟨_, rfl, h⟩
    · wp_walk using q1
      exact ⟨_, rfl, h⟩
theorem enum_begins1 {prog : Program} {w : World} {A : Around} {E : Value → Shared → Prop} {s : Shared} {v : Value} {o : Obj} {H : Heap → Prop} {Q : Value → Shared → Prop} (B : Begins v o H) (h1 : H s.heap)
    (h : ∀ h', IsEnum h' (s.heap.objs.size + 1) s.heap.objs.size 0 .none → h'.get? s.heap.objs.size = some o → h'.objs.size = s.heap.objs.size + 2 →
      (∀ b o, s.heap.get? b = some o → h'.get? b = some o) → Q (.ref (s.heap.objs.size + 1)) { s with heap := h' }) :
    wpAny (model prog w) A (call (.type "enumerate") [v]) Q E s := by
  refine callType_new F.called_enumerate (by decide) (F.typeCall_enumerate_1 _) (F.newCall_enumerate_1 _) (fun obj => F.args_object_init_2 obj _) F.entry_enumerate_new (meets_enum1 B) ⟨h1, ?_⟩
  have hz : (s.heap.push o).objs.size = s.heap.objs.size + 1 := Heap.size_push ..
  show _ ∧ _
  rw [hz]
  have he : IsEnum ((s.heap.push o).push { cls := .type "enumerate", data := .fields #[.none, .bool false, .ref s.heap.objs.size, rawInt 0, .none, .none] }) (s.heap.objs.size + 1) s.heap.objs.size 0 .none := by
    have := Heap.get?_push_size (s.heap.push o) (o := { cls := .type "enumerate", data := .fields #[.none, .bool false, .ref s.heap.objs.size, rawInt 0, .none, .none] }) rfl
    rw [hz] at this; exact this
  refine ⟨⟨_, he, rfl⟩, h _ he (Heap.get?_push_of_some _ (Heap.get?_push_size _ B.free)) (by rw [Heap.size_push, hz]) fun b o x => Heap.get?_push_of_some _ (Heap.get?_push_of_some _ x)⟩
def IteX (K : PySem.W.Frag) (k : Bool) (a : Addr) : It :=
  ⟨fun i H => ∃ (xs : List V) (x : V), SqX K H k a xs ∧ xs[i]? = some x, fun i H v H' => ∃ T x, v = .ref T ∧ H T = none ∧ H' = upd H T (.tup [.int (i : Nat), x]) ∧ ∀ xs, SqX K H k a xs → xs[i]? = some x, fun i H => ∃ xs : List V, SqX K H k a xs ∧ i = xs.length⟩
theorem turn_enumX {P : Program} {w : World} {K : PySem.W.Frag} {elts : List Expr} {kk : Nat} {tpos : Pos} {k : Bool} (a e it : Addr) (hai : a ≠ it) (hae : a ≠ e) :
    Turn P w K (.Tuple elts kk tpos) (IteX K k a) [e, it] e (fun i h => (∃ old, IsEnum h e it ((i : Nat) : Int) old) ∧ IterX k h it a i ∧ e ≠ it) where
  mem := by simp
  obj := fun i h st b hb => by
    obtain ⟨⟨old, he⟩, h1, _⟩ := st
    have e' : b = e ∨ b = it := by simpa using hb
    rcases e' with z | z
    · rw [z]; exact ⟨_, he, fun v q => nomatch q⟩
    · rw [z]; exact h1.ob
  keep := fun i h h' st k => let ⟨⟨old, he⟩, hi, hne⟩ := st; ⟨⟨old, k e (by simp) _ he⟩, hi.at fun o q => k it (by simp) o q, hne⟩
  item := by
    intro X hP hw hK hc i pins s σ H E I hf st hg
    subst hP hw hK
    obtain ⟨⟨old, he⟩, hit, hne⟩ := st
    obtain ⟨xs, x, hq, hx⟩ := hg
    obtain ⟨its, rv, p, la⟩ := sqx_of I hq
    obtain ⟨u, hu, ru⟩ := rv.get hx
    have hel : e < s.heap.objs.size := Heap.lt_size he
    have hil : it < s.heap.objs.size := by obtain ⟨_, q, _⟩ := hit.ob; exact Heap.lt_size q
    have hh : X.A.in1.handled = none := I.ok.hd hc
    have hi1 : i < its.toArray.size := by simpa using (List.getElem?_eq_some_iff.mp hu).1
    refine wpAny_pyNext_enum_itemD (drawsX hh k it a hai its.toArray) he ⟨hit, p⟩ hi1 hne (by simp [hne, hae.symm]) fun x1 h' tk e1 ho hit' hT hsz hk => ?_
    have ex1 : x1 = u := by
      have : its[i]? = some x1 := by simpa using e1
      rw [hu] at this; cases this; rfl
    subst ex1
    refine ⟨_, rfl, wpAny_letOwnedTupleGo_enum (s := { s with heap := h', toks := tk + 1 }) ho fun h'' he' sb => ?_⟩
    have hT2 : h''.get? s.heap.objs.size = some { cls := .type "tuple", data := .seq #[.int i tk, x1] } := (sb.2 _ (Nat.ne_of_gt hel)).trans hT
    have new : ObjOk X.prog X.w (upd H s.heap.objs.size (.tup [.int (i : Nat), x])) h'' s.heap.objs.size (.tup [.int (i : Nat), x]) :=
      ⟨by show 2 ≤ sizeLine; decide, [.int i tk, x1], .cons ⟨_, rfl⟩ (.cons ru .nil), ⟨_, hT2, rfl, _, rfl⟩⟩
    have I1 : Inv X pins σ (upd H s.heap.objs.size (.tup [.int (i : Nat), x])) { s with heap := h'', toks := tk + 1 } :=
      I.turnedNew (t' := tk + 1) (ch := [e, it]) (fun b ob hb q => (sb.2 b (fun z => hb (by simp [z]))).trans (hk b ob (fun z => hb (by simp [z])) (fun z => hb (by simp [z])) q)) hf (Nat.le_refl _) new
    refine ⟨.ref s.heap.objs.size, _, I1, rfl, ⟨_, x, rfl, I.hok.fresh (Nat.le_refl _), rfl, fun ys hy => by rw [sqx_inj I hy hq]; exact hx⟩, ⟨⟨x1, ?_⟩, hit'.1.at fun o q => (sb.2 it (Ne.symm hne)).trans q, hne⟩, fun b hb => ?_⟩
    · have e1 : ((i + 1 : Nat) : Int) = (i : Int) + 1 := by omega
      rw [e1]; exact he'
    · have hb' : b < s.heap.objs.size := by
        have e' : b = e ∨ b = it := by simpa using hb
        rcases e' with z | z
        · rw [z]; exact hel
        · rw [z]; exact hil
      rw [upd_ne (Nat.ne_of_lt hb')]
      exact (hf b hb).1
  done := by
    intro X hP hw hK hc i pins s σ H E I hf st hg
    subst hP hw hK
    obtain ⟨⟨old, he⟩, hit, hne⟩ := st
    obtain ⟨xs, hq, hx⟩ := hg
    obtain ⟨its, rv, p, la⟩ := sqx_of I hq
    have hl := rv.length
    have hh : X.A.in1.handled = none := I.ok.hd hc
    have hn : i = its.toArray.size := by simp; omega
    refine wpAny_pyNext_enum_endD (drawsX hh k it a hai its.toArray) he ⟨hn ▸ hit, p⟩ fun h' eb => ⟨rfl, ?_⟩
    exact I.turnedL (t' := s.toks) (ch := [e, it]) (fun b o hb q => eb b o (fun z => hb (by simp [z])) q) hf
  self := fun A i s Q E st h => let ⟨⟨_, he⟩, _⟩ := st; wpAny_pyIter_enum he h
def iEnumU (K : PySem.W.Frag) (ta : TA) : TI := fun σ H R => ta σ H fun vs H1 => ∃ k a xs, vs = [.ref a] ∧ SqX K H1 k a xs ∧ R (IteX K k a) H1
theorem pi_enumU {X : Cx} {K : PySem.W.Frag} {e : Expr} {te : TE} {p pos tpos : Pos} {elts : List Expr} {kk : Nat} (hK : X.K = K) (hg : Gl X "enumerate") (hm : X.mg "enumerate" = none) (h1 : PE X e te) (hs : starEach [e] X.env = [(false, eval e X.env)] := by rfl) :
    PI X (.Tuple elts kk tpos) (.Call (.Name "enumerate" p) [e] [] pos) (iEnumU K (tCons te tNil)) := by
  subst hK
  have ha : PA X [e] (tCons te tNil) := pa_cons h1 pa_nil hs
  refine ⟨fun pins s σ H R I h => ?_⟩
  refine Call_ (ld_blt I hg hm boot_enumerate (PyProof.Rows.callWith_type1 (thn (ha.run pos pins s σ H _ I h) fun us s1 ⟨vs, H1, I1, r1, q1⟩ => ?_) hs rfl))
  obtain ⟨k, a, xs, ex, hq, q⟩ := q1
  subst ex
  cases r1 with
  | cons r rr =>
    cases rr
    cases r
    obtain ⟨its, rv, p', la⟩ := sqx_of I1 hq
    obtain ⟨o1, b1, it1⟩ := beginsX k a its.toArray
    refine enum_begins1 b1 p' fun h' he g1 hsz hk => wpAny_pyIter_enum he ?_
    have I2 : Inv X pins σ H1 { s1 with heap := h' } := I1.kept (t' := s1.toks) hk
    refine ⟨s1.heap.objs.size + 1, [s1.heap.objs.size + 1, s1.heap.objs.size], _, _, H1, rfl, I2, turn_enumX a (s1.heap.objs.size + 1) s1.heap.objs.size (Nat.ne_of_lt la) (Nat.ne_of_lt (Nat.lt_succ_of_lt la)), ⟨⟨.none, he⟩, it1 _ _ g1, Nat.succ_ne_self _⟩, fun b hb => ?_, q⟩
    have e' : b = s1.heap.objs.size + 1 ∨ b = s1.heap.objs.size := by simpa using hb
    have hle : s1.heap.objs.size ≤ b := by
      rcases e' with z | z
      · rw [z]; exact Nat.le_add_right _ _
      · rw [z]; exact Nat.le_refl _
    exact I1.fpOk hle (I1.hok.fresh hle)
def enumL (n : Nat) : List U → List U
  | [] => []
  | x :: xs => .tup [.int n, x] :: enumL (n + 1) xs
theorem enumL_length : ∀ (xs : List U) (n : Nat), (enumL n xs).length = xs.length
  | [], _ => rfl
  | x :: xs, n => by simp [enumL, enumL_length xs]
theorem enumL_get : ∀ {xs : List U} {n i : Nat} {x : U}, xs[i]? = some x → (enumL n xs)[i]? = some (.tup [.int ((n + i : Nat) : Int), x])
  | [], n, i, x, h => by simp at h
  | a :: xs, n, 0, x, h => by simp at h; subst h; rfl
  | a :: xs, n, i + 1, x, h => by
    have := enumL_get (xs := xs) (n := n + 1) (i := i) (x := x) (by simpa using h)
    show (enumL (n + 1) xs)[i]? = _
    rw [this]
    congr 4
    omega
def enumO (a : Option U) : Option (List U) := a.bind fun x => x.items.map fun xs => enumL 0 xs
theorem ei_enum {σ : L2.St} {B H : Hp} {ta : TE} {oa : Option U} {K : PySem.W.Frag} (ha : EvO ta σ B H oa) : EvI (iEnumU K (tCons ta tNil)) σ B H (enumO oa) := fun zs e B1 H1 g R q => by
  obtain ⟨x, ex, e⟩ := bind_some e
  obtain ⟨xs, exs, e⟩ := map_some e
  subst e
  refine ha x ex B1 H1 g _ fun v B2 H2 g2 r2 => ?_
  obtain ⟨k, a, vs, rfl, ra, sa⟩ := sqx_items (K := K) exs r2
  refine ⟨k, a, vs, rfl, sa H2 g2.bh, q _ B2 H2 g2 ?_⟩
  have l1 := ra.length
  have hl := enumL_length xs 0
  refine ⟨fun i H' hi s => ?_, fun H' s => ?_, fun i H' v H'' B' hi s1 s2 y => ?_⟩
  · have h1 : i < vs.length := by omega
    exact ⟨vs, vs[i], sa H' s, by simp [h1]⟩
  · rw [hl]
    exact ⟨vs, sa H' s, by omega⟩
  · obtain ⟨T, x1, e1, e2, e3, f1⟩ := y
    subst e1 e3
    obtain ⟨u1, eu1, ru1⟩ := ra.back (f1 vs (sa H' (s1.trans s2)))
    have := enumL_get (n := 0) eu1
    rw [Nat.zero_add] at this
    exact ⟨_, _, Go.new s2 e2, this, .tup upd_same ((Rps.cons (.int _) (.cons (ru1.kp (Kp.of s1)) .nil)).new s2 e2)⟩
end Dn
set_option Elab.async false
set_option linter.all false
set_option maxRecDepth 100000
set_option maxHeartbeats 2000000
namespace Dn
open PySem PySem.Spec PyProof.Rows L2
variable [CTab]
/-! ### calls by name -/
theorem kb1r {K : PySem.W.Frag} {x qual : Str} {st : Stmt} {f : Addr} {fd : FuncData} {p1 : Str} (F : Fun K x qual st f fd)
    (h : ∀ (kV doc pm : Value) (an : Option Addr) (cdv ct u : Value), bindArgs (PySem.W.fnOf x qual (defArgs st) (defBody st) (defScope st) .none kV doc pm an cdv ct) ⟨[], [(p1, u)]⟩ = pure [(p1, u)]) :
    KBn K fd [p1] 0 [p1] (fun _ ws => ws.reverse) (fun _ zs => zs.reverse) := by
  obtain ⟨oc, od, kV, doc, pm, an, cdv, ct, osl, rfl, lk, hcd⟩ := F.ex
  refine ⟨fun s us ws X l1 l2 => ?_, fun r1 r2 => Vals.reverse r2⟩
  match us, ws, l1, l2 with
  | [], [u], _, _ => exact BindsTo.of_eq (h kV doc pm an cdv ct u)
theorem kb3r {K : PySem.W.Frag} {x qual : Str} {st : Stmt} {f : Addr} {fd : FuncData} {p1 p2 p3 : Str} (F : Fun K x qual st f fd)
    (h : ∀ (kV doc pm : Value) (an : Option Addr) (cdv ct u v w : Value), bindArgs (PySem.W.fnOf x qual (defArgs st) (defBody st) (defScope st) .none kV doc pm an cdv ct) ⟨[], [(p3, u), (p2, v), (p1, w)]⟩ = pure [(p1, w), (p2, v), (p3, u)]) :
    KBn K fd [p1, p2, p3] 0 [p3, p2, p1] (fun _ ws => ws.reverse) (fun _ zs => zs.reverse) := by
  obtain ⟨oc, od, kV, doc, pm, an, cdv, ct, osl, rfl, lk, hcd⟩ := F.ex
  refine ⟨fun s us ws X l1 l2 => ?_, fun r1 r2 => Vals.reverse r2⟩
  match us, ws, l1, l2 with
  | [], [u, v, w], _, _ => exact BindsTo.of_eq (h kV doc pm an cdv ct u v w)
/-! ### xs.index(y), any data -/
def rLIdx (K : PySem.W.Frag) : V → List V → Hp → VK → Prop := fun x ws H Q => ∃ (xs : List U) (y : U) (v : V) (a : Addr) (vs : List V), ws = [v] ∧ x = .ref a ∧ SqL K H a vs ∧ Rps H xs vs ∧ Rp H y v ∧ inO dep y xs = some true ∧ Q (.int (xs.findIdx (hitU y) : Nat)) H
section
variable {X : Cx}
theorem mt_lidx (hu : X.A.units + 64 < cLine) : MtR X "list.index" (rLIdx X.K) := by
  intro pins s σ H x ws v us Q I rx rxs h
  obtain ⟨xs, y, w, a, vs, rfl, rfl, hT, r, hy, hb, q⟩ := h
  cases rx
  obtain ⟨u, rfl, ru⟩ := rxs.one
  obtain ⟨its, rv, ⟨⟨cls, dd, data, sl⟩, n, ho, hc, hdn, hd⟩, hlen0⟩ := I.list hT
  simp only at hc hd
  subst hc hd
  obtain ⟨i1, i2⟩ := inO_any r rv hb
  have hlen := rps_len r rv
  obtain ⟨z, hz, ez⟩ := inO_true hb
  have hj : xs.findIdx (hitU y) < xs.length := List.findIdx_lt_length_of_exists ⟨z, hz, by simp [hitU, ez]⟩
  have hj2 : xs.findIdx (hitU y) < its.toArray.size := by rw [List.size_toArray, hlen]; exact hj
  have at_ : ∀ (m : Nat) (hm : m < its.toArray.size), ∃ c, eqO dep (xs[m]'(by rw [← hlen]; simpa using hm)) y = some c ∧ eqOf H dep y its.toArray[m] = c := fun m hm => by
    have hm2 : m < its.length := by simpa using hm
    obtain ⟨u1, v1, e1, r1, r2⟩ := rps_at r rv m its[m] (List.getElem?_eq_getElem hm2)
    have hm3 : m < xs.length := by omega
    have e2 : xs[m] = u1 := by rw [List.getElem?_eq_getElem hm3] at e1; exact Option.some.inj e1
    obtain ⟨c, ec⟩ := inO_def hb u1 (e2 ▸ List.getElem_mem hm3)
    refine ⟨c, by rw [e2]; exact ec, ?_⟩
    show eqOf H dep y its[m] = c
    exact eqOf_is r1 r2 ec
  have hsl := sizeLine_eq
  have hvl := rv.length
  refine call_meets PySem.F.slot_list_index ⟨_, ho, rfl⟩ PySem.F.entry_list_index (PySem.F.args_list_index_2 _ _) (SeqAt.list_indexAt a its.toArray n dd sl u (eqOf H dep y) (xs.findIdx (hitU y)) hj2 (by omega) ?_ ?_)
    ⟨ho, fun p hp => ?_, ⟨.int (xs.findIdx (hitU y) : Nat), H, I.tok _, ⟨_, rfl⟩, q⟩⟩
  · obtain ⟨c, e1, e2⟩ := at_ _ hj2
    have : hitU y xs[xs.findIdx (hitU y)] = true := List.findIdx_getElem
    rw [hitU, e1] at this
    rw [e2]
    simpa using this
  · intro m hm hmj
    obtain ⟨c, e1, e2⟩ := at_ m hm
    have : hitU y (xs[m]'(by omega)) = false := List.not_of_lt_findIdx hmj
    rw [hitU, e1] at this
    rw [e2]
    simpa using this
  · obtain ⟨u1, v1, c, r1, rv1, e1, e2⟩ := i2 p (by simpa using hp)
    rw [e2]
    refine eq_at e1 r1 hy rv1 ru (eq_rc I dep e1 r1 hy rv1 ru ?_).1
    show X.A.units + 1 + dep < cLine
    unfold dep; omega
theorem pe_lidx {K : PySem.W.Frag} {o e : Expr} {es : List Expr} {apos cpos : Pos} {to : TE} {t : TA} (hK : X.K = K) (hu : X.A.units + 64 < cLine) (ho : PE X o to) (ha : PA X (e :: es) t) (hbase : attributeBase o "index" X.env (eval o X.env) = eval o X.env := by rfl)
    (hfew : ((backTo cpos (starEach (e :: es) X.env)).all (fun x => !x.1) && (backToKw cpos (keywordEach [] X.env)).all (fun x => x.1.isSome)
      && decide ((e :: es).length + ([] : List Keyword).length + (if ([] : List Keyword).isEmpty then 0 else 1) < 30)) = true := by rfl)
    (hline : (apos.endLine == cpos.line) = true := by rfl) (hs : starEach (e :: es) X.env = (false, eval e X.env) :: starEach es X.env := by rfl) (hplain : (backTo cpos (starEach es X.env)).any (·.1) = false := by rfl) :
    PE X (.Call (.Attribute o "index" apos) (e :: es) [] cpos) (tBM K "list" (rLIdx K) to t) := hK ▸ pe_bm PySem.F.plainAttrs_list PySem.F.slot_list_index PySem.F.type_list_index (mt_lidx hu) ho ha hbase hfew hline hs hplain
end
def lidxV : U → U → Option U
  | .lst xs, y => (inO dep y xs).bind fun b => if b = true then some (.int (xs.findIdx (hitU y) : Nat)) else none
  | .frl xs, y => (inO dep y xs).bind fun b => if b = true then some (.int (xs.findIdx (hitU y) : Nat)) else none
  | _, _ => none
theorem eo_lidx {K : PySem.W.Frag} {σ : L2.St} {B H : Hp} {ta tb : TE} {oa ob : Option U} (ha : EvO ta σ B H oa) (hb : EvO tb σ B H ob) : EvO (tBM K "list" (rLIdx K) ta (tCons tb tNil)) σ B H (op2 lidxV oa ob) := fun z e B1 H1 g Q q => by
  obtain ⟨x, ex, e⟩ := bind_some e
  obtain ⟨y, ey, e⟩ := bind_some e
  refine ha x ex B1 H1 g _ fun v B2 H2 g2 r2 => ?_
  cases r2 with
  | @lst a xs vs h r =>
    obtain ⟨b, eb, e⟩ := bind_some (show (inO dep y xs).bind _ = some z from e)
    split at e
    · rename_i hb'
      subst hb'
      cases e
      refine ⟨.inl ⟨rfl, _, SqL.of (g2.bh _ _ h)⟩, hb _ ey B2 H2 (g.trans g2) _ fun w B3 H3 g3 r3 => ?_⟩
      exact ⟨xs, y, w, a, vs, rfl, rfl, SqL.of (g3.bh _ _ (g3.b _ _ h)), (r.up g3).in g3.bh, r3.in g3.bh, eb, q _ B3 H3 (g2.trans g3) (.int _)⟩
    · cases e
  | @frl a xs vs o h r =>
    obtain ⟨b, eb, e⟩ := bind_some (show (inO dep y xs).bind _ = some z from e)
    split at e
    · rename_i hb'
      subst hb'
      cases e
      refine ⟨.inl ⟨rfl, _, .inl (.inr ⟨o, g2.bh _ _ h⟩)⟩, hb _ ey B2 H2 (g.trans g2) _ fun w B3 H3 g3 r3 => ?_⟩
      exact ⟨xs, y, w, a, vs, rfl, rfl, .inl (.inr ⟨o, g3.bh _ _ (g3.b _ _ h)⟩), (r.up g3).in g3.bh, r3.in g3.bh, eb, q _ B3 H3 (g2.trans g3) (.int _)⟩
    · cases e
  | _ => cases e
/-! ### min of a list -/
def rMinA (K : PySem.W.Frag) : List V → Hp → VK → Prop := fun xs H Q => rMin K xs H Q ∨ ∃ i j, xs = [V.int i, .int j] ∧ Q (.int (if j < i then j else i)) H
theorem call_minK {X : Cx} {K : PySem.W.Frag} (hK : X.K = K) (hc : X.calm = true) : CallR X (.builtin "min") (rMinA K) := hK ▸ CallR.or (cr_min hc) (call_min2 hc)
def minL : List Int → Option Int
  | [] => none
  | n :: r => some (r.foldl min n)
def minA : List U → Option U
  | [.lst xs] => ((intsU xs).bind minL).map U.int
  | xs => minU xs
theorem minL_mem : ∀ {ns : List Int} {m : Int}, minL ns = some m → m ∈ ns ∧ ∀ y ∈ ns, m ≤ y := by
  have key : ∀ (r : List Int) (n : Int), (r.foldl min n = n ∨ r.foldl min n ∈ r) ∧ r.foldl min n ≤ n ∧ ∀ y ∈ r, r.foldl min n ≤ y := by
    intro r
    induction r with
    | nil => intro n; exact ⟨.inl rfl, Int.le_refl _, fun y h => by cases h⟩
    | cons a r ih =>
      intro n
      obtain ⟨h1, h2, h3⟩ := ih (min n a)
      rw [List.foldl_cons]
      refine ⟨?_, by omega, fun y hy => ?_⟩
      · rcases h1 with h1 | h1
        · rcases Int.le_total n a with q | q
          · rw [h1, Int.min_eq_left q]; exact .inl rfl
          · rw [h1, Int.min_eq_right q]; exact .inr (List.mem_cons_self ..)
        · exact .inr (List.mem_cons_of_mem _ h1)
      · rcases List.mem_cons.mp hy with rfl | hy
        · omega
        · exact h3 y hy
  intro ns m h
  cases ns with
  | nil => cases h
  | cons n r =>
    cases h
    obtain ⟨h1, h2, h3⟩ := key r n
    refine ⟨?_, fun y hy => ?_⟩
    · rcases h1 with h1 | h1
      · rw [h1]; exact List.mem_cons_self ..
      · exact List.mem_cons_of_mem _ h1
    · rcases List.mem_cons.mp hy with rfl | hy
      · exact h2
      · exact h3 y hy
theorem rc_minA {K : PySem.W.Frag} : RC (rMinA K) minA := fun xs z e vs B H s rs Q q => by
  unfold minA at e
  split at e
  · rename_i l
    obtain ⟨m, em, e⟩ := map_some e
    subst e
    obtain ⟨ns, en, em⟩ := bind_some em
    obtain ⟨h1, h2⟩ := minL_mem em
    cases rs with
    | cons r1 t =>
      cases t
      cases r1 with
      | @lst a _ ws h r =>
        refine .inl ⟨a, ns, rfl, by rw [← r.intsOf en]; exact SqL.of (s _ _ h), List.length_pos_of_mem h1, fun m' h3 h4 => ?_⟩
        have : m' = m := Int.le_antisymm (h4 _ h1) (h2 _ h3)
        subst this
        exact q _ B H (Go.refl s) (.int _)
  · exact .inr (rc_min _ _ e _ _ _ s rs Q q)
/-! ### sorted of ints, texts, tuples of these -/
def encU (u : U) : PyData := (U.py u).getD .none
def tupNE : PyData → Bool
  | .tuple (_ :: _) => true
  | _ => false
def flatD : PyData → Bool
  | .none => false
  | .tuple _ => false
  | _ => true
def sortable (ds : List PyData) : Bool := (ds.all fun d => ds.all fun d' => PySem.W.alike d d') && ((ds.all tupNE) || (ds.all flatD)) && ds.all fun d => decide (d.depth ≤ 20)
def sortL (xs : List U) : List U := xs.mergeSort (PySem.W.dataLe false encU)
def sortedV : U → Option U
  | .lst xs => (U.pys xs).bind fun ds => if sortable ds = true then some (.lst (sortL xs)) else none
  | _ => none
theorem pys_map : ∀ {xs : List U} {ds : List PyData}, U.pys xs = some ds → ds = xs.map encU ∧ ∀ x ∈ xs, U.py x = some (encU x)
  | [], ds, h => by simp [U.pys] at h; subst h; exact ⟨rfl, fun x hx => nomatch hx⟩
  | x :: xs, ds, h => by
    obtain ⟨d, e1, h⟩ := bind_some (show (U.py x).bind (fun d => (U.pys xs).map fun r => d :: r) = some ds by simpa [U.pys] using h)
    obtain ⟨r, e2, h⟩ := map_some h
    subst h
    obtain ⟨i1, i2⟩ := pys_map e2
    have ed : encU x = d := by simp [encU, e1]
    refine ⟨by rw [List.map_cons, ed, ← i1], fun y hy => ?_⟩
    rcases List.mem_cons.mp hy with rfl | hy
    · rw [ed]; exact e1
    · exact i2 y hy
theorem rps_zip {B : Hp} : ∀ {xs : List U} {ws : List V}, Rps B xs ws → ∀ p ∈ xs.zip ws, Rp B p.1 p.2
  | _, _, .nil, p, hp => by simp at hp
  | _, _, .cons r t, p, hp => by
    rw [List.zip_cons_cons] at hp
    rcases List.mem_cons.mp hp with rfl | hp
    · exact r
    · exact rps_zip t p hp
theorem zip_rps {B : Hp} : ∀ {xs : List U} {ws : List V}, ws.length = xs.length → (∀ p ∈ xs.zip ws, Rp B p.1 p.2) → Rps B xs ws
  | [], [], _, _ => .nil
  | [], _ :: _, h, _ => by simp at h
  | _ :: _, [], h, _ => by simp at h
  | x :: xs, w :: ws, h, hp => .cons (hp (x, w) (by simp)) (zip_rps (by simpa using h) fun p hh => hp p (by rw [List.zip_cons_cons]; exact List.mem_cons_of_mem _ hh))
def rSortD (K : PySem.W.Frag) : List V → Hp → VK → Prop := fun vs H Q => ∃ (a : Addr) (xs : List U) (ws : List V), vs = [V.ref a] ∧ SqL K H a ws ∧ Rps H xs ws ∧ (∀ x ∈ xs, U.py x = some (encU x)) ∧ sortable (xs.map encU) = true ∧
  ∀ (us : List V) (p : Addr), us.length = (sortL xs).length → (∀ q ∈ (sortL xs).zip us, q ∈ xs.zip ws) → H p = none → Q (.ref p) (upd H p (.lst us))
theorem each_of {H : Hp} {Z : List (U × V)} : ∀ {xs : List U} {ws : List V} {its : List Value}, Rps H xs ws → Vals ws its → (∀ q ∈ xs.zip ws, q ∈ Z) → PySem.W.EachIs (fun (v : Value) (x : U) => ∃ w, (x, w) ∈ Z ∧ RelV w v) its xs
  | _, _, _, .nil, .nil, _ => .nil
  | _, _, _, .cons r t, .cons rv tv, h => .cons ⟨_, h _ (by simp), rv⟩ (each_of t tv fun q hq => h q (by rw [List.zip_cons_cons]; exact List.mem_cons_of_mem _ hq))
theorem of_each {Z : List (U × V)} : ∀ {xs : List U} {its : List Value}, PySem.W.EachIs (fun (v : Value) (x : U) => ∃ w, (x, w) ∈ Z ∧ RelV w v) its xs → ∃ ws : List V, ws.length = xs.length ∧ (∀ q ∈ xs.zip ws, q ∈ Z) ∧ Vals ws its
  | _, _, .nil => ⟨[], rfl, fun q hq => by simp at hq, .nil⟩
  | _, _, .cons ⟨w, r, rv⟩ t => by
    obtain ⟨ws, h0, h1, h2⟩ := of_each t
    refine ⟨w :: ws, by simp [h0], fun q hq => ?_, .cons rv h2⟩
    rw [List.zip_cons_cons] at hq
    rcases List.mem_cons.mp hq with rfl | hq
    · exact r
    · exact h1 q hq
theorem cr_sortD {X : Cx} {K : PySem.W.Frag} (hK : X.K = K) (hu : X.A.units + 64 < cLine) : CallR X (.builtin "sorted") (rSortD K) := by
  subst hK
  intro pins s σ H vs us Q I r h
  obtain ⟨a, xs, ws, rfl, hs, rx, hpy, hso, q⟩ := h
  obtain ⟨its, rv, hl, hz⟩ := I.list hs
  rw [Vals.ref1 r]
  have hE := each_of (Z := xs.zip ws) rx rv fun q hq => hq
  simp only [sortable, Bool.and_eq_true, Bool.or_eq_true, List.all_eq_true, decide_eq_true_eq] at hso
  obtain ⟨⟨h1, h2⟩, h3⟩ := hso
  have hlen := rps_len rx rv
  have hvl := rv.length
  have her : ∀ {xs' : List U} {its : List Value}, PySem.W.EachIs (fun (v : Value) (x : U) => ∃ w, (x, w) ∈ xs.zip ws ∧ RelV w v) its xs' → (∀ x ∈ xs', U.py x = some (encU x)) → PySem.W.EachIs (fun v b => ∃ as, Reads s.heap v (encU b) as) its xs' := by
    intro xs' its h
    induction h with
    | nil => intro _; exact .nil
    | cons hh t ih =>
      intro hp
      obtain ⟨w, r1, r2⟩ := hh
      exact .cons (Dp.reads I _ _ _ ((rps_zip rx _ r1).dp (hp _ (List.mem_cons_self ..))) r2) (ih fun x hx => hp x (List.mem_cons_of_mem _ hx))
  refine PySem.W.sorted_data (enc := encU) hl.isList hE (her hE hpy) (fun d hd d' hd' => h1 d hd d' hd') ?_ (by omega) (fun b hb => ?_) fun out ho eo => ?_
  · rcases h2 with h2 | h2
    · refine .inl fun d hd => ?_
      have := h2 d hd
      unfold tupNE at this
      split at this
      · exact ⟨_, _, rfl⟩
      · cases this
    · refine .inr fun d hd => ?_
      have := h2 d hd
      unfold flatD at this
      split at this
      · cases this
      · cases this
      · rename_i n1 n2
        exact ⟨n1, n2⟩
  · have := h3 _ (List.mem_map.mpr ⟨b, hb, rfl⟩)
    omega
  · obtain ⟨ys, k0, k1, k2⟩ := of_each eo
    obtain ⟨ep, he'⟩ := PyProof.Rows.sortedAll_at s.heap its out.toArray
    have hy : ys.length ≤ sizeLine := by
      have := k2.length
      omega
    exact ⟨.ref _, upd H (s.heap.objs.size + 1) (.lst ys), I.laid (t' := s.toks) (fun _ _ => PyProof.Rows.sortedAll_old) (Nat.le_succ _) ⟨hy, out, ep, k2, he'⟩, rfl, q _ _ k0 k1 (I.hok.fresh (Nat.le_succ _))⟩
theorem rc_sortD {K : PySem.W.Frag} : RC (rSortD K) (c1 sortedV) := rc_one c1_one fun x z e v B H s rx Q q => by
  cases rx with
  | @lst a xs vs h r =>
    obtain ⟨ds, ed, e⟩ := bind_some (show (U.pys xs).bind _ = some z from e)
    split at e
    · rename_i hs
      cases e
      obtain ⟨e1, e2⟩ := pys_map ed
      subst e1
      refine ⟨a, xs, vs, rfl, SqL.of (s _ _ h), r.in s, e2, hs, fun us p hl hz hp => ?_⟩
      have rs : Rps B (sortL xs) us := zip_rps hl fun q hq => rps_zip r q (hz q hq)
      exact q _ _ _ (Go.new s hp) (.lst upd_same (rs.new s hp))
    · cases e
  | _ => cases e
end Dn
set_option Elab.async false
set_option linter.all false
set_option maxRecDepth 100000
set_option maxHeartbeats 2000000
namespace Dn
open PySem PySem.Spec PyProof.Rows L2
variable [CTab]
/-! ### {k: v for .. in ..} -/
def dcL (p : U → Option Bool) (kf vf : U → Option U) : List U → List (Key × U) → Option (List (Key × U))
  | [], acc => some acc
  | x :: r, acc => (p x).bind fun b => if b = true then (kf x).bind fun k => (vf x).bind fun v => k.key.bind fun kk => dcL p kf vf r (putU acc kk v) else dcL p kf vf r acc
def dcO (p : U → Option Bool) (kf vf : U → Option U) (xs : List U) : Option U := if xs.length ≤ lim then (dcL p kf vf xs []).map U.dic else none
theorem dc_it {J : It} {n : Nat} {G : Hp → Prop} {Y : Nat → Hp → V → Hp → Prop} (w : Walk J n G Y) {g : TG} {tt : TT} {tk tv : TE} {vs : List Nat} {σ : L2.St} {H1 : Hp} {D : Addr} {Qd : Hp → Prop} (Pv : Nat → Hp → Prop) (h0 : Pv 0 (upd H1 D (.dK []))) (hG : ∀ i H, i ≤ n → Pv i H → G H)
    (hs : ∀ i x H H', i < n → Pv i H → Y i H x H' → g x (wipe σ vs) H' fun σ2 H2 => wipe σ2 vs = wipe σ vs ∧ tt σ2 H2 fun b H3 =>
      if b = true then tk σ2 H3 fun y H4 => tv σ2 H4 fun z H5 => ∃ kvs k, y = kV k ∧ H5 D = some (.dK kvs) ∧ kvs.length < sizeLine ∧ Pv (i + 1) (upd H5 D (.dK (putK kvs k z))) else Pv (i + 1) H3) (hd : ∀ H, Pv n H → Qd H) :
    ∃ W : Nat → Nat → Hp → Prop, (∃ m, W 0 m (upd H1 D (.dK []))) ∧ ∀ i m H, W i m H →
      (J.stop i H ∧ Qd H) ∨ (J.go i H ∧ ∃ Nx : Hp → Prop, (∀ H', Nx H' → ∃ m', m' < m ∧ W (i + 1) m' H') ∧ ∀ x H', J.yld i H x H' → g x (wipe σ vs) H' fun σ2 H2 => wipe σ2 vs = wipe σ vs ∧ tt σ2 H2 fun b H3 =>
        if b = true then tk σ2 H3 fun y H4 => tv σ2 H4 fun z H5 => ∃ kvs k, y = kV k ∧ H5 D = some (.dK kvs) ∧ kvs.length < sizeLine ∧ Nx (upd H5 D (.dK (putK kvs k z))) else Nx H3) := by
  refine ⟨fun i m H => m = n - i ∧ i ≤ n ∧ Pv i H, ⟨n, by simp, Nat.zero_le _, h0⟩, ?_⟩
  rintro i m H ⟨rfl, hi, p⟩
  have q := hG i H hi p
  by_cases hlt : i < n
  · refine .inr ⟨w.goes i H hlt q, Pv (i + 1), fun H' p' => ⟨n - (i + 1), by omega, rfl, hlt, p'⟩, fun x H' y => hs i x H H' hlt p (w.yields i H x H' hlt q y)⟩
  · have e : i = n := by omega
    subst e
    exact .inl ⟨w.stops H q, hd H p⟩
section
variable {σ : L2.St} {B H : Hp} {K : PySem.W.Frag}
theorem putU_len {kvs : List (Key × U)} {k : Key} {v : U} : (putU kvs k v).length ≤ kvs.length + 1 := by
  unfold putU
  split
  · rw [List.length_map]; omega
  · rw [List.length_append, List.length_singleton]; omega
theorem eo_dcG {wi : TI} {g : TG} {tt : TT} {tk tv : TE} {vs : List Nat} {oxs : Option (List U)} {p : U → Option Bool} {kf vf : U → Option U} (hi : EvI wi σ B H oxs)
    (hg : ∀ u v B1 H1 (Q : L2.St → Hp → Prop) b, At B B1 H1 → Rp B1 u v → p u = some b → (∀ σ2, wipe σ2 vs = wipe σ vs → EvT tt σ2 B1 H1 (some b) → (b = true → EvO tk σ2 B1 H1 (kf u) ∧ EvO tv σ2 B1 H1 (vf u)) → Q σ2 H1) → g v (wipe σ vs) H1 Q) :
    EvO (tFrz (tDc wi g tt tk tv vs)) σ B H (oxs.bind fun xs => dcO p kf vf xs) := fun z e B0 H0 g0 Q q => by
  obtain ⟨xs, exs, e⟩ := bind_some e
  unfold dcO at e
  split at e
  · rename_i hlim
    obtain ⟨zs, ezs, e⟩ := map_some e
    subst e
    refine hi xs exs B0 H0 g0 _ fun J B2 H2 g2 w => fun D hD => ?_
    have w' : Walk J xs.length (fun H' => Same B2 H') (J.yld) := ⟨w.goes, w.stops, fun _ _ _ _ _ _ y => y⟩
    refine dc_it w' (fun i H' => ∃ Bi acc ys, Go B2 H2 Bi H' ∧ Bi D = none ∧ H' D = some (.dK acc) ∧ Rpk Bi ys acc ∧ dcL p kf vf (xs.drop i) ys = some zs ∧ ys.length ≤ i) ?_ ?_ ?_ ?_
    · exact ⟨B2, [], [], Go.own g2.bh hD, g2.bh.free hD, upd_same, .nil, by simpa using ezs, Nat.le_refl _⟩
    · rintro i H' _ ⟨Bi, _, _, gi, _⟩
      exact gi.b.trans gi.bh
    · rintro i x H' H'' hin ⟨Bi, acc, ys, gi, hBD, hHD, ra, hr, hy⟩ y
      obtain ⟨B', u, g', eu, ru⟩ := w.yields i H' x H'' Bi hin gi.b gi.bh y
      rw [drop_at eu] at hr
      obtain ⟨b, eb, err⟩ := bind_some hr
      have gg : At B B' H'' := (g0.trans g2).trans (gi.trans g')
      refine hg u x B' H'' _ b gg ru eb fun σ2 hw ht hte => ⟨hw, ?_⟩
      refine ht b rfl B' H'' (Go.refl gg.bh) _ fun B3 H3 g3 => ?_
      have hB'D : B' D = none := g'.noB hBD hHD
      have hH''D : H'' D = some (.dK acc) := g'.h _ _ hHD
      cases b with
      | true =>
        obtain ⟨yk, ek, err⟩ := bind_some (show (kf u).bind _ = _ from err)
        obtain ⟨yv, ev, err⟩ := bind_some err
        obtain ⟨kk, ekk, err⟩ := bind_some err
        obtain ⟨h1, h2⟩ := hte rfl
        refine h1 yk ek B3 H3 g3 _ fun v4 B4 H4 g4 r4 => h2 yv ev B4 H4 (g3.at.trans g4) _ fun v5 B5 H5 g5 r5 => ?_
        have g35 := (g3.trans g4).trans g5
        have hB5 : B5 D = none := g35.noB hB'D hH''D
        have hH5 : H5 D = some (.dK acc) := g35.h _ _ hH''D
        have hlen := ra.length
        refine ⟨acc, kk, r4.key ekk, hH5, lim_lt (by omega), B5, putK acc kk v5, putU ys kk yv, ((gi.trans g').trans g35).mut hD hB5, hB5, upd_same, ((ra.kp (Kp.of g'.b)).kp (Kp.of g35.b)).put r5 kk, err, ?_⟩
        have := putU_len (kvs := ys) (k := kk) (v := yv)
        omega
      | false =>
        have hB3 : B3 D = none := g3.noB hB'D hH''D
        have hH3 : H3 D = some (.dK acc) := g3.h _ _ hH''D
        exact ⟨B3, acc, ys, (gi.trans g').trans g3, hB3, hH3, (ra.kp (Kp.of g'.b)).kp (Kp.of g3.b), err, by omega⟩
    · rintro H' ⟨Bi, acc, ys, gi, hBD, hHD, ra, hr, hy⟩
      rw [List.drop_length] at hr
      cases hr
      refine ⟨D, _, rfl, hHD, trivial, fun od => ?_⟩
      have gk : Go B2 H2 (upd Bi D (.frz od (.dK acc))) (upd H' D (.frz od (.dK acc))) := by
        refine ⟨fun b u e => ?_, fun b u e => ?_, fun b u e => ?_, fun b u e => ?_⟩
        · rw [upd_ne (ne_of_none e hD)]; exact gi.h b u e
        · rw [upd_ne (ne_of_none (gi.b b u e) hBD)]; exact gi.b b u e
        · by_cases hb : b = D
          · subst hb; rw [upd_same] at e ⊢; exact e
          · rw [upd_ne hb] at e ⊢; exact gi.bh b u e
        · by_cases hb : b = D
          · subst hb; exact .inr hD
          · rw [upd_ne hb] at e; exact gi.fr b u e
      exact q _ _ _ (g2.trans gk) (.dic upd_same (ra.kp (Kp.of (same_lock hBD))))
  · cases e
theorem eo_dc2n {wi : TI} {tt : TT} {tk tv : TE} {vs : List Nat} {j1 j2 : Nat} {oxs : Option (List U)} {p : U → U → Option Bool} {kf vf : U → U → Option U} (hi : EvI wi σ B H oxs) (hw : ∀ x y, wipe (((wipe σ vs).set j1 (some x)).set j2 (some y)) vs = wipe σ vs)
    (hp : ∀ a b v w B1 H1, At B B1 H1 → Rp B1 a v → Rp B1 b w → EvT tt (((wipe σ vs).set j1 (some v)).set j2 (some w)) B1 H1 (p a b)) (hk : ∀ a b v w B1 H1, At B B1 H1 → Rp B1 a v → Rp B1 b w → EvO tk (((wipe σ vs).set j1 (some v)).set j2 (some w)) B1 H1 (kf a b))
    (hv : ∀ a b v w B1 H1, At B B1 H1 → Rp B1 a v → Rp B1 b w → EvO tv (((wipe σ vs).set j1 (some v)).set j2 (some w)) B1 H1 (vf a b)) :
    EvO (tFrz (tDc wi (gTup K 2 (gCons (gName j1) (gCons (gName j2) gNil))) tt tk tv vs)) σ B H (oxs.bind fun xs => dcO (fun u => (unp2 u).bind fun ab => p ab.1 ab.2) (fun u => (unp2 u).bind fun ab => kf ab.1 ab.2) (fun u => (unp2 u).bind fun ab => vf ab.1 ab.2) xs) :=
  eo_dcG hi fun u v B1 H1 Q b g r eb k => by
    obtain ⟨⟨x, y⟩, eu, eb⟩ := bind_some eb
    refine g_two g.bh r eu fun a' b' ra rb => k _ (hw a' b') (by rw [← eb]; exact hp x y a' b' B1 H1 g ra rb) fun _ => ?_
    rw [eu]
    exact ⟨hk x y a' b' B1 H1 g ra rb, hv x y a' b' B1 H1 g ra rb⟩
def compD2 (p : U → U → Option Bool) (kf vf : U → U → Option U) (xs : Option (List U)) : Option U := xs.bind fun xs => dcO (fun u => (unp2 u).bind fun ab => p ab.1 ab.2) (fun u => (unp2 u).bind fun ab => kf ab.1 ab.2) (fun u => (unp2 u).bind fun ab => vf ab.1 ab.2) xs
/-! ### {k: v, ..} -/
inductive Dp2 (σ : L2.St) (B H : Hp) : List (TE × TE) → List (Option U × Option U) → Prop
  | nil : Dp2 σ B H [] []
  | cons {tk tv : TE} {ok ov : Option U} {ts : List (TE × TE)} {os : List (Option U × Option U)} : EvO tk σ B H ok → EvO tv σ B H ov → Dp2 σ B H ts os → Dp2 σ B H ((tk, tv) :: ts) ((ok, ov) :: os)
def pairsO : List (Option U × Option U) → Option (List (Key × U))
  | [] => some []
  | (ok, ov) :: os => ok.bind fun k => ov.bind fun v => k.key.bind fun kk => (pairsO os).map fun r => (kk, v) :: r
def dispO (os : List (Option U × Option U)) : Option U := (pairsO os).bind fun kvs => if kvs.length ≤ 15 then some (.dic (mergeU [] kvs)) else none
theorem dp_run : ∀ {ts : List (TE × TE)} {os : List (Option U × Option U)}, Dp2 σ B H ts os → ∀ (kvs : List (Key × U)), pairsO os = some kvs → ∀ B1 H1, At B B1 H1 → ∀ (Q : List (V × V) → Hp → Prop), (∀ es B2 H2, Go B1 H1 B2 H2 → Rpk B2 kvs es → Q (es.map fun kv => (kV kv.1, kv.2)) H2) → tPairs ts σ H1 Q
  | _, _, .nil, kvs, e, B1, H1, g, Q, q => by
    cases e
    exact q [] B1 H1 (Go.refl g.bh) .nil
  | _, _, .cons hk hv t, kvs, e, B1, H1, g, Q, q => by
    obtain ⟨k, ek, e⟩ := bind_some e
    obtain ⟨v, ev, e⟩ := bind_some e
    obtain ⟨kk, ekk, e⟩ := bind_some e
    obtain ⟨r, er, e⟩ := map_some e
    subst e
    refine hk k ek B1 H1 g _ fun v2 B2 H2 g2 r2 => hv v ev B2 H2 (g.trans g2) _ fun v3 B3 H3 g3 r3 => ?_
    refine dp_run t r er B3 H3 ((g.trans g2).trans g3) _ fun es B4 H4 g4 r4 => ?_
    have := q ((kk, v3) :: es) B4 H4 ((g2.trans g3).trans g4) (.cons (r3.up g4) r4)
    rw [r2.key ekk]
    exact this
theorem Rpk.mergeE {B : Hp} : ∀ {more : List (Key × U)} {rs : List (Key × V)}, Rpk B more rs → ∀ {kvs : List (Key × U)} {es : List (Key × V)}, Rpk B kvs es → Rpk B (mergeU kvs more) (mergeK es rs)
  | _, _, .nil, _, _, r => r
  | _, _, .cons h t, _, _, r => Rpk.mergeE t (r.put h _)
theorem eo_disp {ts : List (TE × TE)} {os : List (Option U × Option U)} (h : Dp2 σ B H ts os) : EvO (tFrz (tDisp ts)) σ B H (dispO os) := fun z e B1 H1 g Q q => by
  obtain ⟨kvs, ek, e⟩ := bind_some e
  split at e
  · rename_i hl
    cases e
    intro p hp
    have g0 : Go B1 H1 B1 (upd H1 p (.dK [])) := Go.own g.bh hp
    refine dp_run h kvs ek B1 _ (g.trans g0) _ fun es B2 H2 g2 r2 => ?_
    have e2 : H2 p = some (.dK []) := g2.h _ _ upd_same
    have b1 : B1 p = none := g.bh.free hp
    have b2 : B2 p = none := g2.noB b1 upd_same
    refine ⟨e2, es, rfl, by rw [r2.length]; exact hl, p, _, rfl, upd_same, trivial, fun od => ?_⟩
    have e0 : upd (upd H2 p (.dK (mergeK [] es))) p (.frz od (.dK (mergeK [] es))) = upd H2 p (.frz od (.dK (mergeK [] es))) := by
      funext c
      by_cases hc : c = p
      · subst hc; rw [upd_same, upd_same]
      · rw [upd_ne hc, upd_ne hc, upd_ne hc]
    rw [e0]
    have g12 := g0.trans g2
    have gk : Go B1 H1 (upd B2 p (.frz od (.dK (mergeK [] es)))) (upd H2 p (.frz od (.dK (mergeK [] es)))) := by
      refine ⟨fun b u e => ?_, fun b u e => ?_, fun b u e => ?_, fun b u e => ?_⟩
      · rw [upd_ne (ne_of_none e hp)]; exact g12.h b u e
      · rw [upd_ne (ne_of_none (g12.b b u e) b2)]; exact g12.b b u e
      · by_cases hb : b = p
        · subst hb; rw [upd_same] at e ⊢; exact e
        · rw [upd_ne hb] at e ⊢; exact g12.bh b u e
      · by_cases hb : b = p
        · subst hb; exact .inr hp
        · rw [upd_ne hb] at e; exact g12.fr b u e
    exact q _ _ _ gk (.dic upd_same ((Rpk.mergeE r2 .nil).kp (Kp.of (same_lock b2))))
  · cases e
/-! ### d.get(k, x) -/
def op3 (f : U → U → U → Option U) (a b c : Option U) : Option U := a.bind fun x => b.bind fun y => c.bind fun z => f x y z
def get2V (x y z : U) : Option U := (dgetO x y).map fun o => o.getD z
theorem isD_of {x y : U} {v : V} {B H : Hp} {o : Option U} (h : dgetO x y = some o) (s : Same B H) (rx : Rp B x v) : ∃ a, v = .ref a ∧ IsD H a := by
  cases rx with
  | @dic a kvs es ob e r => exact ⟨a, rfl, .inl ⟨es, .inr ⟨ob, s _ _ e⟩⟩⟩
  | @dit a kvs es ob e r => exact ⟨a, rfl, .inr ⟨es, .inr ⟨ob, s _ _ e⟩⟩⟩
  | _ => cases y <;> cases h
theorem eo_get2 {td ty tx : TE} {oa ob oc : Option U} (ha : EvO td σ B H oa) (hb : EvO ty σ B H ob) (hc : EvO tx σ B H oc) : EvO (tDGet2 td ty tx) σ B H (op3 get2V oa ob oc) := fun z e B1 H1 g Q q => by
  obtain ⟨x, ex, e⟩ := bind_some e
  obtain ⟨y, ey, e⟩ := bind_some e
  obtain ⟨w, ew, e⟩ := bind_some e
  obtain ⟨o, eo, e⟩ := map_some e
  subst e
  refine ha x ex B1 H1 g _ fun v B2 H2 g2 r2 => ?_
  obtain ⟨a, rfl, d⟩ := isD_of eo g2.bh r2
  refine ⟨a, rfl, d, hb y ey B2 H2 (g.trans g2) _ fun v3 B3 H3 g3 r3 => hc w ew B3 H3 ((g.trans g2).trans g3) _ fun v4 B4 H4 g4 r4 => ?_⟩
  have g24 := g3.trans g4
  obtain ⟨a', r, e1, dg, e2, e3⟩ := dget_of eo g4.bh (r2.up g24) (r3.up g4)
  cases e1
  refine ⟨r, dg, ?_⟩
  cases o with
  | some z =>
    obtain ⟨u, eu, ru⟩ := e3 z rfl
    subst eu
    exact q _ B4 H4 (g2.trans g24) ru
  | none =>
    have : r = none := by
      cases r with
      | none => rfl
      | some u => cases e2
    subst this
    exact q _ B4 H4 (g2.trans g24) r4
end
section
variable {M : Addr → Prop} {ps : List Addr} {σ : L2.St} {B : Hp} {tl : TA} {F : SM (List U)} {c : Nat} {m : U → Option (List (Str × U))} {E : XK}
theorem es_make (ha : EvAS M ps σ B tl F) : EvS M ps σ B (tMake (CTab.ct c) (spMk c m) [] E tl) (callS (mkF c m) F) := fun us z us' e B1 H1 g w Q q => by
  obtain ⟨xs, us1, ex, e⟩ := bindS_some e
  obtain ⟨ee, rfl⟩ := pureS_some e
  clear e
  obtain ⟨u, rfl⟩ := mkF_one _ _ ee
  refine ha _ _ _ ex B1 H1 g w _ fun vs B2 H2 g2 r w2 => ?_
  cases r with
  | cons r t =>
    cases t
    intro x dx hx hd hne
    exact make_go g2.bh r ee (fun v B3 H3 g3 r3 => q v B3 H3 (g2.trans (.of g3)) r3 (w2.go g3)) x dx hx hd hne
end
end Dn
set_option Elab.async false
set_option linter.all false
set_option maxRecDepth 100000
set_option maxHeartbeats 2000000
namespace Dn
open PySem PySem.Spec PyProof.Rows L2
variable [CTab]
/-! ### dicts whose keys are truths: what the heap has of them -/
section
variable {P : Program} {w : World} {H : Hp} {h : Heap} {a : Addr}
theorem DictB.of {es : List (Bool × V)} {vs : List (Bool × Value)} (r : KV es vs) (d : h.DictOf (PpSet.boolK P w) a vs) : ∃ o, h.get? a = some o ∧ DictB o es := by
  obtain ⟨o, ents, ep, ho, hx, hd, hk, hp, hn⟩ := d
  exact ⟨o, ho, hx, ents, ep, vs, hd, r, BPs.of hp (fun e he => hk e (by simpa using he)), hn⟩
theorem DictB.at {es : List (Bool × V)} {o : Obj} (x : DictB o es) (ho : h.get? a = some o) : ∃ (ents : Array DictEntry) (ep : Nat) (vs : List (Bool × Value)), o.data = .dict ents ep ∧ ents.size = es.length ∧ KV es vs ∧ h.DictAt (PpSet.boolK P w) a vs ep := by
  obtain ⟨hx, ents, ep, vs, hd, r, bp, hn⟩ := x
  refine ⟨ents, ep, vs, hd, ?_, r, o, ents, ho, hx, hd, fun e he => bp.keys e (by simpa using he), bp.pairs, hn⟩
  have l1 : ents.toList.length = vs.length := (bp.pairs (P := P) (w := w)).length
  have l2 : es.length = vs.length := Paired.length r
  rw [Array.length_toList] at l1
  omega
theorem db_new {H' : Hp} {h' : Heap} {es : List (Bool × V)} {vs : List (Bool × Value)} (z : es.length ≤ sizeLine) (hd : (a == sysModules) = false) (rel : KV es vs) (dd : h'.DictOf (PpSet.boolK P w) a vs) : ObjOk P w H' h' a (dB a es) := by
  obtain ⟨o, ho, d⟩ := DictB.of rel dd
  exact ⟨⟨z, hd, o, ho, d⟩, ⟨o, ho⟩, fun h1 h2 ⟨z1, z2, o1, e1, d1⟩ k => ⟨z1, z2, o1, k _ e1, d1⟩⟩
theorem db_empty {H' : Hp} (h : Heap) (hb : sysModules < h.objs.size) : ObjOk P w H' (h.push { cls := .type "dict", data := .dict #[] }) h.objs.size (dB h.objs.size []) :=
  db_new (vs := []) (Nat.zero_le _) (beq_eq_false_iff_ne.mpr (Ne.symm (Nat.ne_of_lt hb))) .nil (Heap.DictOf.new h)
theorem db_ok {es : List (Bool × V)} (x : ObjOk P w H h a (dB a es)) : es.length ≤ sizeLine ∧ (a == sysModules) = false ∧ ∃ o, h.get? a = some o ∧ DictB o es := by
  have x : ObjOk P w H h a (.ext fun h => es.length ≤ sizeLine ∧ (a == sysModules) = false ∧ ∃ o, h.get? a = some o ∧ DictB o es) := x
  exact x.1
theorem db_of {es : List (Bool × V)} (ok : HOk P w H h) (e : H a = some (dB a es)) : es.length ≤ sizeLine ∧ (a == sysModules) = false ∧ ∃ vs, KV es vs ∧ h.DictOf (PpSet.boolK P w) a vs := by
  obtain ⟨z, hd, o, ho, d⟩ := db_ok (ok a _ e)
  obtain ⟨_, ep, vs, _, _, r, da⟩ := d.at (P := P) (w := w) ho
  exact ⟨z, hd, vs, r, da.dictOf⟩
end
theorem db_mut {a : Addr} {es : List (Bool × V)} : Mut (some (dB a es)) := trivial
section
variable {X : Cx} {pins : List (Addr × Obj)} {σ : L2.St} {H : Hp} {s : Shared} {E : Value → Shared → Prop}
theorem dB_set {D : Addr} {kvs : List (Bool × V)} {k : Bool} {v : V} {u r : Value} {Q : Unit → Shared → Prop} (I : Inv X pins σ H s) (hD : H D = some (dB D kvs)) (hz : kvs.length < sizeLine)
    (ry : RelV (.bl k) u) (rv : RelV v r) (h : ∀ s', Inv X pins σ (upd H D (dB D (putK kvs k v))) s' → Q () s') : wpAny (model X.prog X.w) X.A (dictSet D u r) Q E s := by
  obtain ⟨z, hd, vs, rel, dd⟩ := db_of I.hok hD
  have hzv : vs.length ≤ sizeLine := by rw [← rel.length]; exact z
  have hl : (putK kvs k v).length ≤ sizeLine := by have := length_putK kvs k v; omega
  have hu : (PpSet.boolK X.prog X.w).is k u = true := by cases (show u = _ from ry); exact PpSet.boolK_is _ _ _
  refine wpAny_dictSet_pairs (hsz := hzv) hu dd fun h' dd' hs => h _ ?_
  have he : ∃ q, h'.get? D = some q := let ⟨q, _, _, hq, _⟩ := dd'; ⟨q, hq⟩
  exact d_write I (by rw [hD]; exact trivial) hs he (db_new hl hd (rel.put k rv) dd')
theorem Inv.frzB {d : Addr} {o : Obj} {es : List (Bool × V)} (I : Inv X pins σ H s) (h : H d = some (.frz o (dB d es))) :
    (d == sysModules) = false ∧ s.heap.get? d = some o ∧ DictB o es := by
  have x : ObjOk X.prog X.w H s.heap d (.frz o (dB d es)) := I.hok d _ h
  obtain ⟨ho, y⟩ := x
  obtain ⟨_, hd, o', ho', db⟩ := db_ok (show ObjOk X.prog X.w H s.heap d (dB d es) from y)
  rw [ho] at ho'
  cases ho'
  exact ⟨hd, ho, db⟩
end
/-- locked for good -/
def tFrzB (te : TE) : TE := fun σ H Q => te σ H fun v H1 => ∃ d es, v = .ref d ∧ H1 d = some (dB d es) ∧ ∀ od, DictB od es → Q v (upd H1 d (.frz od (dB d es)))
theorem pe_frzB {X : Cx} {e : Expr} {t : TE} (h : PE X e t) : PE X e (tFrzB t) := by
  refine ⟨fun pins s σ H Q I hw => ?_⟩
  refine thn (h.run pins s σ H _ I hw) fun v s1 ⟨x, H1, I1, r1, d, es, ex, hd, q⟩ => ?_
  obtain ⟨od, I2⟩ := I1.lock hd db_mut
  obtain ⟨_, _, db⟩ := Inv.frzB I2 upd_same
  exact ⟨x, _, I2, r1, q od db⟩
/-! ### {k: v for .. in ..} -/
def tDcB (wi : TI) (g : TG) (tt : TT) (tk tv : TE) (vs : List Nat) : TE := fun σ H Q => wi σ H fun J H1 => ∀ D, H1 D = none → ∃ W : Nat → Nat → Hp → Prop, (∃ m, W 0 m (upd H1 D (dB D []))) ∧ ∀ i m H, W i m H →
  (J.stop i H ∧ Q (.ref D) H) ∨ (J.go i H ∧ ∃ Nx : Hp → Prop, (∀ H', Nx H' → ∃ m', m' < m ∧ W (i + 1) m' H') ∧ ∀ x H', J.yld i H x H' → g x (wipe σ vs) H' fun σ2 H2 => wipe σ2 vs = wipe σ vs ∧ tt σ2 H2 fun b H3 =>
    if b = true then tk σ2 H3 fun y H4 => tv σ2 H4 fun z H5 => ∃ kvs k, y = .bl k ∧ H5 D = some (dB D kvs) ∧ kvs.length < sizeLine ∧ Nx (upd H5 D (dB D (putK kvs k z))) else Nx H3)
theorem dcB_core {X : Cx} {pins : List (Addr × Obj)} {s : Shared} {σ : L2.St} {H : Hp} {Q : VK} {kx vx tg iter : Expr} {ifs : List Expr} {scope : Scope} {own : List (Str × Nat)} {pos pos' : Pos} {wi : TI} {g : TG} {tt : TT} {tk tv : TE} {use : Option (Value → Sem Unit)} {Qf : Value → Shared → Prop}
    (hc : X.calm = true) (hN : X.N.Nodup) (I : Inv X pins σ H s) (hi : PI X tg iter wi) (ok : BlkOk X.N X.env.scope scope own)
    (hg : ∀ (s : Shared) (H : Hp) (C : Addr) (cl : List (Str × Addr)) (fp : List Addr), PG (X.blk s H scope (compEnvC scope cl C X.env) fp) tg g) (ht : ∀ (s : Shared) (H : Hp) (C : Addr) (cl : List (Str × Addr)) (fp : List Addr), PTs (X.blk s H scope (compEnvC scope cl C X.env) fp) ifs tt)
    (hk : ∀ (s : Shared) (H : Hp) (C : Addr) (cl : List (Str × Addr)) (fp : List Addr), PE (X.blk s H scope (compEnvC scope cl C X.env) fp) kx tk)
    (he : ∀ (s : Shared) (H : Hp) (C : Addr) (cl : List (Str × Addr)) (fp : List Addr), PE (X.blk s H scope (compEnvC scope cl C X.env) fp) vx tv) (hs : ∀ x, foldedSetIterable iter X.env x = pure x)
    (h : tDcB wi g tt tk tv (own.map (·.2)) σ H Q)
    (hRR : ∀ D C s' m H', Inv X pins σ H' s' → Q (.ref D) H' → s'.heap.Ns C m → FpOk X pins H' C → compPost (model X.prog X.w) X.A X.xe use Qf (.ref D) C (.ok .next) s') :
    wpAny (model X.prog X.w) X.A (comprehension (.DictComp kx vx [⟨tg, iter, ifs, 0⟩] scope pos) scope X.env pos' newDict false (eval iter X.env) use) Qf X.xe s := by
  have hfree : ∀ y ∈ scope.names, y.2 = .free → ∃ c, X.env.cells.lookup y.1 = some c := fun y hy e => by
    rcases ok.free y hy e with k | k
    · exact I.ok.has _ (.inl k)
    · exact I.ok.has _ (.inr k)
  refine wpAny_comprehension_free (use := use) rfl hs (closure_ok hfree) ok.kind (fun y hy e => by rw [ok.uniq y hy, e])
    (thn (hi.run pins s σ H _ I h) fun xv s1 hx => thn hx fun itv s2 h2 => ?_)
  obtain ⟨it, fp, tn, J, H2, e, I2, T, st2, f2, q⟩ := h2
  subst e
  refine wpAny_newObj_type (newEnv_comp ?_)
  generalize hD : s2.heap.objs.size = D
  have hDn : H2 D = none := I2.hok.fresh (Nat.le_of_eq hD)
  obtain ⟨W, ⟨m0, w0⟩, turn⟩ := q D hDn
  -- the new list
  generalize hs3 : ({ s2 with heap := s2.heap.push { cls := .type "dict", data := .dict #[] } } : Shared) = s3
  have I3 : Inv X pins σ (upd H2 D (dB D [])) s3 := by
    rw [← hs3]
    refine I2.laid (t' := s2.toks) (fun b o e => Heap.get?_push_of_some _ e) (Nat.le_of_eq hD) ?_
    rw [← hD]
    exact db_empty s2.heap I2.big
  have h3 : s3.heap = s2.heap.push { cls := .type "dict", data := .dict #[] } := by rw [← hs3]
  have sz : ∀ b ∈ fp, b < s2.heap.objs.size := fun b hb => by
    obtain ⟨o, e, _⟩ := T.obj _ _ st2 b hb
    exact Heap.lt_size e
  have f3 : ∀ b ∈ fp, FpOk X pins (upd H2 D (dB D [])) b ∧ b < s3.heap.objs.size := fun b hb => by
    have hlt := sz b hb
    refine ⟨⟨?_, (f2 b hb).2⟩, by rw [h3, Heap.size_push]; exact Nat.lt_succ_of_lt hlt⟩
    rw [upd_ne (by rw [← hD]; exact Nat.ne_of_lt hlt)]
    exact (f2 b hb).1
  have st3 : tn 0 s3.heap := T.keep _ _ _ st2 fun b _ o e => by rw [h3]; exact Heap.get?_push_of_some _ e
  have I4 := block_start I3 ok hN f3
  have pg := hg s3 (upd H2 D (dB D [])) s3.heap.objs.size (cellsFrom (s3.heap.objs.size + 1) scope.names (cloFrom X.env.cells scope.names [])) fp
  have pt := ht s3 (upd H2 D (dB D [])) s3.heap.objs.size (cellsFrom (s3.heap.objs.size + 1) scope.names (cloFrom X.env.cells scope.names [])) fp
  have pk := hk s3 (upd H2 D (dB D [])) s3.heap.objs.size (cellsFrom (s3.heap.objs.size + 1) scope.names (cloFrom X.env.cells scope.names [])) fp
  have pe := he s3 (upd H2 D (dB D [])) s3.heap.objs.size (cellsFrom (s3.heap.objs.size + 1) scope.names (cloFrom X.env.cells scope.names [])) fp
  show codeAny _ _ (.compStart (.DictComp kx vx [⟨tg, iter, ifs, 0⟩] scope pos) 0 (.ref it) (.ref D) (compEnvC scope (cellsFrom (s3.heap.objs.size + 1) scope.names (cloFrom X.env.cells scope.names [])) s3.heap.objs.size X.env)) (compPost (model X.prog X.w) X.A X.xe use Qf (.ref D) s3.heap.objs.size) { s3 with heap := pushCells (s3.heap.push { cls := .type "dict", data := .dict #[] }) scope.names }
  have nfp : ∀ b ∈ fp, (upd H2 D (dB D [])) b = none := fun b hb => (f3 b hb).1.1
  generalize hce : compEnvC scope (cellsFrom (s3.heap.objs.size + 1) scope.names (cloFrom X.env.cells scope.names [])) s3.heap.objs.size X.env = ce at I4 pg pt pk pe ⊢
  have cL : ce.locals = s3.heap.objs.size := by subst hce; rfl
  generalize hH3 : upd H2 D (dB D []) = H3 at I3 I4 pg pt pk pe w0 nfp f3
  generalize hs4 : ({ s3 with heap := pushCells (s3.heap.push { cls := .type "dict", data := .dict #[] }) scope.names } : Shared) = s4 at I4 ⊢
  have st4 : tn 0 s4.heap := T.keep _ _ _ st3 fun b _ o e => by rw [← hs4]; exact pushCells_keeps _ _ _ _ (Heap.get?_push_of_some _ e)
  have stat : ∀ {σ' : L2.St} {H' : Hp} {s' : Shared}, Inv (X.blk s3 H3 scope ce fp) [] σ' H' s' → (∀ b ∈ fp, H' b = none) → ∀ b ∈ fp, FpOk (X.blk s3 H3 scope ce fp) [] H' b := fun {σ' H' s'} I' hn b hb =>
    ⟨hn b hb, (I'.ok.exf b hb).1, I'.ok.exfs b hb, .inl hb, fun x c e => (I'.ok.exf b hb).2 x c e, fun p hp => absurd (show p ∈ ([] : List (Addr × Obj)) ++ [] from hp) (by simp)⟩
  have loop : codeAny (model X.prog X.w) X.A (.compLoop (.DictComp kx vx [⟨tg, iter, ifs, 0⟩] scope pos) 0 (.ref it) (.ref D) ce) (compPost (model X.prog X.w) X.A X.xe use Qf (.ref D) s3.heap.objs.size) s4 := by
    refine compLoop_anyD (fun n s' => ∃ i H', Inv (X.blk s3 H3 scope ce fp) [] (wipe σ (own.map (·.2))) H' s' ∧ tn i s'.heap ∧ (∀ b ∈ fp, H' b = none) ∧ W i n H') ?_ m0 ⟨0, H3, I4, st4, nfp, w0⟩
    rintro n s5 ⟨i, H5, I5, st5, n5, w5⟩
    rcases turn i n H5 w5 with ⟨stop, qq⟩ | ⟨go, Nx, hNx, step⟩
    · have td := T.done (X.blk s3 H3 scope ce fp) rfl rfl rfl hc i [] s5 _ H5 (fun _ _ => False) I5 (stat I5 n5) st5 stop
      refine thnF td fun r s6 ⟨hr, I6⟩ => ?_
      subst hr
      -- back in the def's context
      have I7 : Inv X pins σ H5 s6 := I3.call' (ch := fp) I6.os I6.base I6.hok I6.bare fun b hb => ⟨(f3 b hb).1.2.2.2.1, (f3 b hb).1.2.1, (f3 b hb).1.2.2.2.2.1, (f3 b hb).1.2.2.2.2.2⟩
      have nC : H5 s3.heap.objs.size = none := by
        have z : H5 ce.locals = none := I6.free
        rw [cL] at z
        exact z
      obtain ⟨m, hn, _⟩ := I6.loc
      have hn : s6.heap.Ns ce.locals m := hn
      rw [cL] at hn
      exact hRR D s3.heap.objs.size s6 m H5 I7 qq hn (I3.fpOk (Nat.le_refl _) nC)
    · have ti := T.item (X.blk s3 H3 scope ce fp) rfl rfl rfl hc i [] s5 _ H5 (fun _ _ => False) I5 (stat I5 n5) st5 go
      refine thnF ti fun r s6 ⟨u, hr, h6⟩ => ?_
      subst hr
      refine thnF h6 fun _ s7 ⟨x, H7, I7, r7, y7, st7, n7⟩ => ?_
      have I7' := I7.pinned (stat I7 n7) (T.obj _ _ st7)
      refine thnF (pg.run _ s7 _ H7 x u _ I7' r7 (step x H7 y7)) fun _ s8 ⟨σ8, H8, I8, hw8, q8⟩ => ?_
      refine thnF (pt.run _ s8 σ8 H8 _ I8 q8) fun b s9 ⟨H9, I9, q9⟩ => ?_
      -- the turn's end
      have fin : ∀ {s' : Shared} {H' : Hp}, Inv (X.blk s3 H3 scope ce fp) ([] ++ pinsAt fp s7.heap) σ8 H' s' → Nx H' → ∃ m, m < n ∧ ∃ i H', Inv (X.blk s3 H3 scope ce fp) [] (wipe σ (own.map (·.2))) H' s' ∧ tn i s'.heap ∧ (∀ b ∈ fp, H' b = none) ∧ W i m H' := fun {s' H'} I' nx => by
        obtain ⟨m', hm, w'⟩ := hNx H' nx
        have pin' : ∀ b ∈ fp, ∀ o, s7.heap.get? b = some o → s'.heap.get? b = some o ∧ H' b = none := fun b hb o e =>
          let z := I'.pin (b, o) (List.mem_append_right _ (List.mem_append_right _ (mem_pinsAt hb e)))
          ⟨z.1, z.2.1⟩
        have hl : (wipe σ (own.map (·.2))).length = σ8.length := by rw [← hw8, wipe_length]
        refine ⟨m', hm, i + 1, H', (I'.unpinned (pins := [])).weak hl (fun j v e => ?_), T.keep _ _ _ st7 fun b hb o e => (pin' b hb o e).1, fun b hb => ?_, w'⟩
        · rw [← hw8] at e
          exact (wipe_some e).1
        · obtain ⟨o, e, _⟩ := T.obj _ _ st7 b hb
          exact (pin' b hb o e).2
      cases b with
      | false =>
        simp only [Bool.false_eq_true, if_false] at q9 ⊢
        exact fin I9 q9
      | true =>
        simp only [if_true] at q9 ⊢
        refine thnF (pk.run _ s9 σ8 H9 _ I9 q9) fun z s10 ⟨yk, H10, I10, r10, q10⟩ => ?_
        refine thnF (pe.run _ s10 σ8 H10 _ I10 q10) fun z2 s11 ⟨yv, H11, I11, r11, kvs, k, ek, hD11, hz11, nx⟩ => ?_
        subst ek
        exact dB_set (X := X.blk s3 H3 scope ce fp) I11 hD11 hz11 r10 r11 fun s12 I12 => fin I12 nx
  exact codeAny_compStart_dict loop (T.self X.A 0 _ _ _ st4 loop)
theorem pe_dcB {X : Cx} {kx vx tg iter : Expr} {ifs : List Expr} {scope : Scope} {own : List (Str × Nat)} {pos : Pos} {wi : TI} {g : TG} {tt : TT} {tk tv : TE} (hc : X.calm = true) (hN : X.N.Nodup) (hi : PI X tg iter wi) (ok : BlkOk X.N X.env.scope scope own)
    (hg : ∀ (s : Shared) (H : Hp) (C : Addr) (cl : List (Str × Addr)) (fp : List Addr), PG (X.blk s H scope (compEnvC scope cl C X.env) fp) tg g) (ht : ∀ (s : Shared) (H : Hp) (C : Addr) (cl : List (Str × Addr)) (fp : List Addr), PTs (X.blk s H scope (compEnvC scope cl C X.env) fp) ifs tt)
    (hk : ∀ (s : Shared) (H : Hp) (C : Addr) (cl : List (Str × Addr)) (fp : List Addr), PE (X.blk s H scope (compEnvC scope cl C X.env) fp) kx tk)
    (he : ∀ (s : Shared) (H : Hp) (C : Addr) (cl : List (Str × Addr)) (fp : List Addr), PE (X.blk s H scope (compEnvC scope cl C X.env) fp) vx tv) (hs : ∀ x, foldedSetIterable iter X.env x = pure x := by intro _; rfl) :
    PE X (.DictComp kx vx [⟨tg, iter, ifs, 0⟩] scope pos) (tDcB wi g tt tk tv (own.map (·.2))) := by
  refine ⟨fun pins s σ H Q I h => ?_⟩
  rw [arm_eval_DictComp]
  refine dcB_core hc hN I hi ok hg ht hk he hs h fun D C s' m H' I' q hn f => ⟨m, hn, fun h'' sb => ?_⟩
  obtain ⟨f0, f1, f2, f3, f4, f5⟩ := f
  exact ⟨.ref D, H', I'.turned (t' := s'.toks) (fun b o hb e => (sb.2 b hb).trans e) f0 f1 f3 f4 f5, rfl, q⟩
theorem kv_getB : ∀ {kvs : List (Bool × V)} {vs : List (Bool × Value)} {i : Nat} {k : Bool} {v : V}, KV kvs vs → kvs[i]? = some (k, v) → ∃ u, vs[i]? = some (k, u) ∧ RelV v u
  | _, _, _, _, _, .nil, e => by simp at e
  | _, _, 0, k, v, .cons (b := q) h t, e => by
    simp at e
    subst e
    obtain ⟨q1, q2⟩ := q
    obtain ⟨h1, h2⟩ := h
    cases h1
    exact ⟨q2, rfl, h2⟩
  | _, _, i + 1, k, v, .cons h t, e => by
    obtain ⟨u, h1, h2⟩ := kv_getB (i := i) (k := k) (v := v) t (by simpa using e)
    exact ⟨u, by simpa using h1, h2⟩

/-! ### {k: v} -/
def tDispB (tk tv : TE) : TE := fun σ H Q => ∀ p, H p = none → tk σ (upd H p (dB p [])) fun x H1 => tv σ H1 fun y H2 => H2 p = some (dB p []) ∧ ∃ b, x = .bl b ∧ Q (.ref p) (upd H2 p (dB p [(b, y)]))
theorem pe_dispB {X : Cx} {pos : Pos} {k v : Expr} {tk tv : TE} (hk : PE X k tk) (hv : PE X v tv) : PE X (.Dict [some k] [v] pos) (tDispB tk tv) := by
  refine ⟨fun pins s σ H Q I q => ?_⟩
  have hn := I.hok.fresh (Nat.le_refl s.heap.objs.size)
  have I1 := I.laid (a := s.heap.objs.size) (o := dB s.heap.objs.size []) (h' := s.heap.push { cls := .type "dict", data := .dict #[] }) (t' := s.toks) (fun _ _ q => Heap.get?_push_of_some _ q) (Nat.le_refl _) (db_empty s.heap I.big)
  have pp : PPs X pos [some k] [v] [(tk, tv)] := pps_cons hk hv pps_nil
  refine wpAny_Dict_walk (knd := PpSet.boolK X.prog X.w) rfl rfl (fun z => by cases z) (show 1 ≤ 15 by decide) (thn (pp.run pins _ σ _ (fun ps H2 => ∃ x y, ps = [(x, y)] ∧ H2 s.heap.objs.size = some (dB s.heap.objs.size []) ∧ ∃ b, x = .bl b ∧ Q (.ref s.heap.objs.size) (upd H2 s.heap.objs.size (dB s.heap.objs.size [(b, y)]))) I1 ?_) fun ws s2 ⟨ps, H2, I2, rel, x, y, ep, e, b, ex, q2⟩ => ?_)
  · have := q _ hn
    show tk σ _ fun x H1 => tv σ H1 fun y H2 => _
    refine cast ?_ this
    congr 1
    funext x H1
    congr 1
    funext y H2
    refine propext ⟨fun z => ⟨x, y, rfl, z⟩, fun ⟨x', y', e, z⟩ => ?_⟩
    cases e
    exact z
  subst ep ex
  cases rel with
  | @cons _ wp _ _ hr t =>
    cases t
    obtain ⟨w1, w2⟩ := wp
    obtain ⟨z, hd, vs0, r0, dd⟩ := db_of I2.hok e
    cases r0
    have e1 : w1 = Value.bool b := hr.1
    refine ⟨[(b, w2)], ⟨by rw [e1]; exact PpSet.boolK_is _ _ _, rfl, trivial⟩, dd, fun h' dd' hs => ⟨.ref s.heap.objs.size, _, ?_, rfl, q2⟩⟩
    have he : ∃ q, h'.get? s.heap.objs.size = some q := let ⟨q, _, _, hq, _⟩ := dd'; ⟨q, hq⟩
    exact d_write I2 (by rw [e]; exact trivial) hs he (db_new (vs := [(b, w2)]) (by show 1 ≤ sizeLine; decide) hd (.cons ⟨rfl, hr.2⟩ .nil) dd')
/-! ### d.items() -/
def Itb (d : Addr) (o : Obj) (kvs : List (Bool × V)) : It :=
  ⟨fun i H => H d = some (.frz o (dB d kvs)) ∧ i < kvs.length, fun i H x H' => ∃ T k v, kvs[i]? = some (k, v) ∧ x = .ref T ∧ H T = none ∧ H' = upd H T (.tup [.bl k, v]), fun i H => H d = some (.frz o (dB d kvs)) ∧ kvs.length ≤ i⟩
section
variable {P : Program} {w : World} {K : PySem.W.Frag} {d : Addr} {o : Obj} {es : Array DictEntry} {ep : Nat}
theorem turn_itemsB {kvs : List (Bool × V)} {elts : List Expr} {kk : Nat} {tpos : Pos} (it : Addr) (hod : o.data = .dict es ep) :
    Turn P w K (.Tuple elts kk tpos) (Itb d o kvs) [it] it (fun i h => ∃ ok ov, IsItemIter h it d i kvs.length ep ok ov) where
  mem := by simp
  obj := fun i h st b hb => by
    have e : b = it := by simpa using hb
    subst e
    obtain ⟨ok, ov, e⟩ := st
    exact ⟨_, e, fun v z => nomatch z⟩
  keep := fun i h h' st k => let ⟨ok, ov, e⟩ := st; ⟨ok, ov, k it (by simp) _ e⟩
  item := by
    intro X hP hw hK hc i pins s σ H E I hf st hg
    subst hP hw hK
    obtain ⟨hd, hi⟩ := hg
    obtain ⟨hs, hgd, db⟩ := Inv.frzB I hd
    obtain ⟨es', ep', vs, hdt, hsz, kv, hm⟩ := db.at (P := X.prog) (w := X.w) hgd
    obtain ⟨rfl, rfl⟩ := dict_ep hod hdt
    obtain ⟨⟨k, v⟩, hkv⟩ : ∃ p, kvs[i]? = some p := ⟨kvs[i], List.getElem?_eq_getElem hi⟩
    obtain ⟨u, hu, ru⟩ := kv_getB kv hkv
    have hl : kvs.length = vs.length := Paired.length kv
    obtain ⟨ok, ov, he⟩ := st
    rw [hl] at he
    have hlt : it < s.heap.objs.size := Heap.lt_size he
    refine wpAny_pyNext_items_item he hm hu fun key h' hkey ho hT hz hk => ?_
    refine ⟨_, rfl, wpAny_letOwnedTupleGo_items (s := { s with heap := h' }) ho fun h'' he' sb => ?_⟩
    have hT2 : h''.get? s.heap.objs.size = some { cls := .type "tuple", data := .seq #[key, u] } := (sb.2 _ (Nat.ne_of_gt hlt)).trans hT
    have new : ObjOk X.prog X.w (upd H s.heap.objs.size (.tup [.bl k, v])) h'' s.heap.objs.size (.tup [.bl k, v]) :=
      ⟨by show 2 ≤ sizeLine; decide, [key, u], .cons (PpSet.isB_shape hkey) (.cons ru .nil), ⟨_, hT2, rfl, _, rfl⟩⟩
    have I1 : Inv X pins σ (upd H s.heap.objs.size (.tup [.bl k, v])) { s with heap := h'' } :=
      I.turnedNew (t' := s.toks) (ch := [it]) (fun b ob hb e => (sb.2 b (by simpa using hb)).trans (hk b ob (by simpa using hb) e)) hf (Nat.le_refl _) new
    refine ⟨.ref s.heap.objs.size, _, I1, rfl, ⟨_, k, v, hkv, rfl, I.hok.fresh (Nat.le_refl _), rfl⟩, ⟨key, u, ?_⟩, fun b hb => ?_⟩
    · rw [hl]; exact he'
    · have e : b = it := by simpa using hb
      rw [e, upd_ne (Nat.ne_of_lt hlt)]
      exact (hf it (by simp)).1
  done := by
    intro X hP hw hK hc i pins s σ H E I hf st hg
    subst hP hw hK
    obtain ⟨hd, hi⟩ := hg
    obtain ⟨f0, f1, f2, f3, f4, f5⟩ := hf it (by simp)
    obtain ⟨hs, hgd, db⟩ := Inv.frzB I hd
    obtain ⟨es', ep', vs, hdt, hsz, kv, hm⟩ := db.at (P := X.prog) (w := X.w) hgd
    obtain ⟨rfl, rfl⟩ := dict_ep hod hdt
    have hl : kvs.length = vs.length := Paired.length kv
    obtain ⟨ok, ov, he⟩ := st
    rw [hl] at he
    exact wpAny_pyNext_items_end (I.ok.hd hc) he hm (List.getElem?_eq_none (by omega)) fun h' eb => ⟨rfl, I.turned (t' := s.toks) (fun b ob hb e => eb b ob hb e) f0 f1 f3 f4 f5⟩
  self := fun A i s Q E st h => let ⟨_, _, e⟩ := st; PySem.W.kcp_self e h
end
def iItemsB (td : TE) : TI := fun σ H R => td σ H fun x H1 => ∃ d o kvs, x = .ref d ∧ H1 d = some (.frz o (dB d kvs)) ∧ R (Itb d o kvs) H1
section
variable {X : Cx} {tg e : Expr} {td : TE} {apos cpos : Pos}
theorem pi_itemsB {elts : List Expr} {kk : Nat} {tpos : Pos} (he : PE X e td) (hbase : attributeBase e "items" X.env (eval e X.env) = eval e X.env := by rfl) (hline : (apos.endLine == cpos.line) = true := by rfl) :
    PI X (.Tuple elts kk tpos) (.Call (.Attribute e "items" apos) [] [] cpos) (iItemsB td) := by
  refine ⟨fun pins s σ H R I h => ?_⟩
  refine wpAny_Call_method (T := "dict") (id := "dict.items") hbase rfl hline F.plainAttrs_dict F.slot_dict_items F.type_dict_items (thn (he.run pins s σ H _ I h) fun u s1 ⟨x, H1, I1, rx, d, o, kvs, ex, hd, q⟩ => ?_)
  subst ex
  obtain rfl : u = Value.ref d := rx
  obtain ⟨hs, hgd, db⟩ := Inv.frzB I1 hd
  obtain ⟨es, ep, vs, hdt, hsz, kv, hm⟩ := db.at (P := X.prog) (w := X.w) hgd
  have hl : kvs.length = vs.length := Paired.length kv
  refine ⟨hm.dictOf.typeIs, hm.dictOf.mapOf.noDict, ?_⟩
  have I2 : Inv X pins σ H1 { s1 with heap := s1.heap.push { cls := .type "dict_items", data := .fields #[.ref d] } } := I1.kept (t' := s1.toks) fun b ob q => Heap.get?_push_of_some _ q
  have fin : wpAny (model X.prog X.w) X.A (pyIter (.ref s1.heap.objs.size)) (PIE X pins σ (.Tuple elts kk tpos) R) X.xe { s1 with heap := s1.heap.push { cls := .type "dict_items", data := .fields #[.ref d] } } := by
    refine wpAny_pyIter_items (d := d) (knd := PpSet.boolK X.prog X.w) ⟨_, Heap.get?_push_size _ rfl, rfl, rfl⟩ (hm.push _) (pi_one (tk := s1.toks) I2 _ (turn_itemsB _ hdt) ⟨.none, .none, ?_⟩ q)
    rw [hl]
    exact Heap.get?_push_size _ rfl
  show wpAny _ _ (callWith cpos (.builtin "dict.items") [.ref d] [] []) _ X.xe s1
  exact method_meetsIn F.slot_dict_items F.entry_dict_items rfl (PySem.evalArgs_none ⟨rfl, hm.dictOf.typeIs, F.args_dict_items_1 _, _, meets_dict_items (PpSet.boolK X.prog X.w) d hs, ⟨vs, hm.dictOf⟩, fin⟩)
end
end Dn
set_option Elab.async false
set_option linter.all false
set_option maxRecDepth 100000
set_option maxHeartbeats 2000000
namespace Dn
open PySem PySem.Spec PyProof.Rows L2
variable [CTab]
/-! ### {k: v} with a truth as its key -/
def dispB (a b : Option U) : Option U := a.bind fun k => b.bind fun v => k.asB.map fun c => .dib [(c, v)]
section
variable {B : Hp} {x : U} {v : V}
theorem Rpb.any (k : Bool) : ∀ {kvs : List (Bool × U)} {es : List (Bool × V)}, Rpb B kvs es → (es.any fun kv => decide (kv.1 = k)) = (kvs.any fun kv => decide (kv.1 = k))
  | _, _, .nil => rfl
  | _, _, .cons _ t => by rw [List.any_cons, List.any_cons, Rpb.any k t]
theorem Rpb.repl (h : Rp B x v) (k : Bool) : ∀ {kvs : List (Bool × U)} {es : List (Bool × V)}, Rpb B kvs es → Rpb B (kvs.map fun kv => if kv.1 = k then (kv.1, x) else kv) (es.map fun kv => if kv.1 = k then (kv.1, v) else kv)
  | _, _, .nil => .nil
  | _, _, @Rpb.cons _ _ k' y w kvs es r t => by
    rw [List.map_cons, List.map_cons]
    by_cases e : k' = k
    · simp only [e, if_true]; exact .cons h (Rpb.repl h k t)
    · simp only [e, if_false]; exact .cons r (Rpb.repl h k t)
theorem Rpb.snoc (h : Rp B x v) (k : Bool) : ∀ {kvs : List (Bool × U)} {es : List (Bool × V)}, Rpb B kvs es → Rpb B (kvs ++ [(k, x)]) (es ++ [(k, v)])
  | _, _, .nil => .cons h .nil
  | _, _, .cons r t => .cons r (Rpb.snoc h k t)
theorem Rpb.put (h : Rp B x v) (k : Bool) {kvs : List (Bool × U)} {es : List (Bool × V)} (r : Rpb B kvs es) : Rpb B (putU kvs k x) (putK es k v) := by
  unfold putU putK
  rw [r.any k]
  split
  · exact r.repl h k
  · exact r.snoc h k
theorem Rpb.length : ∀ {xs : List (Bool × U)} {vs : List (Bool × V)}, Rpb B xs vs → vs.length = xs.length
  | _, _, .nil => rfl
  | _, _, .cons _ t => by rw [List.length_cons, List.length_cons, Rpb.length t]
theorem Rpb.at : ∀ {xs : List (Bool × U)} {vs : List (Bool × V)} {i : Nat} {k : Bool} {v : V}, Rpb B xs vs → vs[i]? = some (k, v) → ∃ x, xs[i]? = some (k, x) ∧ Rp B x v
  | _, _, _, _, _, .nil, e => by simp at e
  | _, _, 0, _, _, .cons h t, e => by simp at e; obtain ⟨rfl, rfl⟩ := e; exact ⟨_, rfl, h⟩
  | _, _, i + 1, k, v, .cons h t, e => by
    obtain ⟨x, h1, h2⟩ := Rpb.at (i := i) (k := k) (v := v) t (by simpa using e)
    exact ⟨x, by simpa using h1, h2⟩
end
theorem go_lockB {B2 H2 Bi H' : Hp} (gi : Go B2 H2 Bi H') {D : Addr} (hD : H2 D = none) (hBD : Bi D = none) {od : Obj} {u : HO} : Go B2 H2 (upd Bi D (.frz od u)) (upd H' D (.frz od u)) := by
  refine ⟨fun b u e => ?_, fun b u e => ?_, fun b u e => ?_, fun b u e => ?_⟩
  · rw [upd_ne (ne_of_none e hD)]; exact gi.h b u e
  · rw [upd_ne (ne_of_none (gi.b b u e) hBD)]; exact gi.b b u e
  · by_cases hb : b = D
    · subst hb; rw [upd_same] at e ⊢; exact e
    · rw [upd_ne hb] at e ⊢; exact gi.bh b u e
  · by_cases hb : b = D
    · subst hb; exact .inr hD
    · rw [upd_ne hb] at e; exact gi.fr b u e
section
variable {σ : L2.St} {B H : Hp} {K : PySem.W.Frag}
theorem asB_bl {k : U} {c : Bool} (h : k.asB = some c) : k = .bl c := by
  cases k <;> cases h <;> rfl
theorem eo_dispB {tk tv : TE} {oa ob : Option U} (ha : EvO tk σ B H oa) (hb : EvO tv σ B H ob) : EvO (tFrzB (tDispB tk tv)) σ B H (dispB oa ob) := fun z e B1 H1 g Q q => by
  obtain ⟨k, ek, e⟩ := bind_some e
  obtain ⟨v, ev, e⟩ := bind_some e
  obtain ⟨c, ec, e⟩ := map_some e
  subst e
  cases asB_bl ec
  intro p hp
  have g0 : Go B1 H1 B1 (upd H1 p (dB p [])) := Go.own g.bh hp
  have b1 : B1 p = none := g.bh.free hp
  refine ha _ ek B1 _ (g.trans g0) _ fun v2 B2 H2 g2 r2 => hb v ev B2 H2 ((g.trans g0).trans g2) _ fun v3 B3 H3 g3 r3 => ?_
  have g23 := g2.trans g3
  have e3 : H3 p = some (dB p []) := g23.h _ _ upd_same
  have b3 : B3 p = none := g23.noB b1 upd_same
  cases r2
  refine ⟨e3, c, rfl, p, [(c, v3)], rfl, upd_same, fun od db => ?_⟩
  rw [upd_upd]
  exact q _ _ _ (go_lockB (g0.trans g23) hp b3) (.dib upd_same db (.cons (r3.kp (Kp.of (same_lock b3))) .nil))
/-! ### {k: v for k in ..} -/
def dcBL (p : U → Option Bool) (kf vf : U → Option U) : List U → List (Bool × U) → Option (List (Bool × U))
  | [], acc => some acc
  | x :: r, acc => (p x).bind fun b => if b = true then (kf x).bind fun k => (vf x).bind fun v => k.asB.bind fun kk => dcBL p kf vf r (putU acc kk v) else dcBL p kf vf r acc
def dcBO (p : U → Option Bool) (kf vf : U → Option U) (xs : List U) : Option U := if xs.length ≤ lim then (dcBL p kf vf xs []).map U.dib else none
theorem dcB_it {J : It} {n : Nat} {G : Hp → Prop} {Y : Nat → Hp → V → Hp → Prop} (w : Walk J n G Y) {g : TG} {tt : TT} {tk tv : TE} {vs : List Nat} {σ : L2.St} {H1 : Hp} {D : Addr} {Qd : Hp → Prop} (Pv : Nat → Hp → Prop) (h0 : Pv 0 (upd H1 D (dB D []))) (hG : ∀ i H, i ≤ n → Pv i H → G H)
    (hs : ∀ i x H H', i < n → Pv i H → Y i H x H' → g x (wipe σ vs) H' fun σ2 H2 => wipe σ2 vs = wipe σ vs ∧ tt σ2 H2 fun b H3 =>
      if b = true then tk σ2 H3 fun y H4 => tv σ2 H4 fun z H5 => ∃ kvs k, y = .bl k ∧ H5 D = some (dB D kvs) ∧ kvs.length < sizeLine ∧ Pv (i + 1) (upd H5 D (dB D (putK kvs k z))) else Pv (i + 1) H3) (hd : ∀ H, Pv n H → Qd H) :
    ∃ W : Nat → Nat → Hp → Prop, (∃ m, W 0 m (upd H1 D (dB D []))) ∧ ∀ i m H, W i m H →
      (J.stop i H ∧ Qd H) ∨ (J.go i H ∧ ∃ Nx : Hp → Prop, (∀ H', Nx H' → ∃ m', m' < m ∧ W (i + 1) m' H') ∧ ∀ x H', J.yld i H x H' → g x (wipe σ vs) H' fun σ2 H2 => wipe σ2 vs = wipe σ vs ∧ tt σ2 H2 fun b H3 =>
        if b = true then tk σ2 H3 fun y H4 => tv σ2 H4 fun z H5 => ∃ kvs k, y = .bl k ∧ H5 D = some (dB D kvs) ∧ kvs.length < sizeLine ∧ Nx (upd H5 D (dB D (putK kvs k z))) else Nx H3) := by
  refine ⟨fun i m H => m = n - i ∧ i ≤ n ∧ Pv i H, ⟨n, by simp, Nat.zero_le _, h0⟩, ?_⟩
  rintro i m H ⟨rfl, hi, p⟩
  have q := hG i H hi p
  by_cases hlt : i < n
  · refine .inr ⟨w.goes i H hlt q, Pv (i + 1), fun H' p' => ⟨n - (i + 1), by omega, rfl, hlt, p'⟩, fun x H' y => hs i x H H' hlt p (w.yields i H x H' hlt q y)⟩
  · have e : i = n := by omega
    subst e
    exact .inl ⟨w.stops H q, hd H p⟩
theorem putU_lenB {kvs : List (Bool × U)} {k : Bool} {v : U} : (putU kvs k v).length ≤ kvs.length + 1 := by
  unfold putU
  split
  · rw [List.length_map]; omega
  · rw [List.length_append, List.length_singleton]; omega
theorem eo_dcBG {wi : TI} {g : TG} {tt : TT} {tk tv : TE} {vs : List Nat} {oxs : Option (List U)} {p : U → Option Bool} {kf vf : U → Option U} (hi : EvI wi σ B H oxs)
    (hg : ∀ u v B1 H1 (Q : L2.St → Hp → Prop) b, At B B1 H1 → Rp B1 u v → p u = some b → (∀ σ2, wipe σ2 vs = wipe σ vs → EvT tt σ2 B1 H1 (some b) → (b = true → EvO tk σ2 B1 H1 (kf u) ∧ EvO tv σ2 B1 H1 (vf u)) → Q σ2 H1) → g v (wipe σ vs) H1 Q) :
    EvO (tFrzB (tDcB wi g tt tk tv vs)) σ B H (oxs.bind fun xs => dcBO p kf vf xs) := fun z e B0 H0 g0 Q q => by
  obtain ⟨xs, exs, e⟩ := bind_some e
  unfold dcBO at e
  split at e
  · rename_i hlim
    obtain ⟨zs, ezs, e⟩ := map_some e
    subst e
    refine hi xs exs B0 H0 g0 _ fun J B2 H2 g2 w => fun D hD => ?_
    have w' : Walk J xs.length (fun H' => Same B2 H') (J.yld) := ⟨w.goes, w.stops, fun _ _ _ _ _ _ y => y⟩
    refine dcB_it w' (fun i H' => ∃ Bi acc ys, Go B2 H2 Bi H' ∧ Bi D = none ∧ H' D = some (dB D acc) ∧ Rpb Bi ys acc ∧ dcBL p kf vf (xs.drop i) ys = some zs ∧ ys.length ≤ i) ?_ ?_ ?_ ?_
    · exact ⟨B2, [], [], Go.own g2.bh hD, g2.bh.free hD, upd_same, .nil, by simpa using ezs, Nat.le_refl _⟩
    · rintro i H' _ ⟨Bi, _, _, gi, _⟩
      exact gi.b.trans gi.bh
    · rintro i x H' H'' hin ⟨Bi, acc, ys, gi, hBD, hHD, ra, hr, hy⟩ y
      obtain ⟨B', u, g', eu, ru⟩ := w.yields i H' x H'' Bi hin gi.b gi.bh y
      rw [drop_at eu] at hr
      obtain ⟨b, eb, err⟩ := bind_some hr
      have gg : At B B' H'' := (g0.trans g2).trans (gi.trans g')
      refine hg u x B' H'' _ b gg ru eb fun σ2 hw ht hte => ⟨hw, ?_⟩
      refine ht b rfl B' H'' (Go.refl gg.bh) _ fun B3 H3 g3 => ?_
      have hB'D : B' D = none := g'.noB hBD hHD
      have hH''D : H'' D = some (dB D acc) := g'.h _ _ hHD
      cases b with
      | true =>
        obtain ⟨yk, ek, err⟩ := bind_some (show (kf u).bind _ = _ from err)
        obtain ⟨yv, ev, err⟩ := bind_some err
        obtain ⟨kk, ekk, err⟩ := bind_some err
        cases asB_bl ekk
        obtain ⟨h1, h2⟩ := hte rfl
        refine h1 _ ek B3 H3 g3 _ fun v4 B4 H4 g4 r4 => h2 yv ev B4 H4 (g3.at.trans g4) _ fun v5 B5 H5 g5 r5 => ?_
        have g35 := (g3.trans g4).trans g5
        have hB5 : B5 D = none := g35.noB hB'D hH''D
        have hH5 : H5 D = some (dB D acc) := g35.h _ _ hH''D
        have hlen := ra.length
        cases r4
        refine ⟨acc, kk, rfl, hH5, lim_lt (by omega), B5, putK acc kk v5, putU ys kk yv, ((gi.trans g').trans g35).mut hD hB5, hB5, upd_same, ((ra.kp (Kp.of g'.b)).kp (Kp.of g35.b)).put r5 kk, err, ?_⟩
        have := putU_lenB (kvs := ys) (k := kk) (v := yv)
        omega
      | false =>
        have hB3 : B3 D = none := g3.noB hB'D hH''D
        have hH3 : H3 D = some (dB D acc) := g3.h _ _ hH''D
        exact ⟨B3, acc, ys, (gi.trans g').trans g3, hB3, hH3, (ra.kp (Kp.of g'.b)).kp (Kp.of g3.b), err, by omega⟩
    · rintro H' ⟨Bi, acc, ys, gi, hBD, hHD, ra, hr, hy⟩
      rw [List.drop_length] at hr
      cases hr
      refine ⟨D, acc, rfl, hHD, fun od db => ?_⟩
      exact q _ _ _ (g2.trans (go_lockB gi hD hBD)) (.dib upd_same db (ra.kp (Kp.of (same_lock hBD))))
  · cases e
theorem eo_dcB1 {wi : TI} {tt : TT} {tk tv : TE} {vs : List Nat} {j : Nat} {oxs : Option (List U)} {p : U → Option Bool} {kf vf : U → Option U} (hi : EvI wi σ B H oxs) (hw : ∀ x, wipe ((wipe σ vs).set j (some x)) vs = wipe σ vs)
    (hp : ∀ a v B1 H1, At B B1 H1 → Rp B1 a v → EvT tt ((wipe σ vs).set j (some v)) B1 H1 (p a)) (hk : ∀ a v B1 H1, At B B1 H1 → Rp B1 a v → EvO tk ((wipe σ vs).set j (some v)) B1 H1 (kf a))
    (hv : ∀ a v B1 H1, At B B1 H1 → Rp B1 a v → EvO tv ((wipe σ vs).set j (some v)) B1 H1 (vf a)) :
    EvO (tFrzB (tDcB wi (gName j) tt tk tv vs)) σ B H (oxs.bind fun xs => dcBO p kf vf xs) :=
  eo_dcBG hi fun u v B1 H1 Q b g r eb k => k _ (hw v) (by rw [← eb]; exact hp u v B1 H1 g r) fun _ => ⟨hk u v B1 H1 g r, hv u v B1 H1 g r⟩
def compDB (p : U → Option Bool) (kf vf : U → Option U) (xs : Option (List U)) : Option U := xs.bind fun xs => dcBO p kf vf xs
/-! ### d.items() -/
def U.itemsB : U → Option (List U)
  | .dib kvs => some (kvs.map fun kv => .tup [.bl kv.1, kv.2])
  | _ => none
theorem ei_itemsB {tl : TE} {oa : Option U} (h : EvO tl σ B H oa) : EvI (iItemsB tl) σ B H (iterO U.itemsB oa) := fun xs e B1 H1 g R q => by
  obtain ⟨x, ex, e⟩ := bind_some e
  refine h x ex B1 H1 g _ fun v B2 H2 g2 r => ?_
  cases r with
  | @dib a kvs es o h db r =>
    cases e
    refine ⟨a, o, es, rfl, g2.bh _ _ h, q _ B2 H2 g2 ⟨fun i H' hi s => ?_, fun H' s => ?_, fun i H' x H'' B' hi s1 s2 y => ?_⟩⟩
    · rw [List.length_map, ← r.length] at hi
      exact ⟨s _ _ h, hi⟩
    · rw [List.length_map, ← r.length]
      exact ⟨s _ _ h, Nat.le_refl _⟩
    · obtain ⟨T, k, w, e2, e1, hT, e3⟩ := y
      subst e1 e3
      obtain ⟨x, ex, rx⟩ := r.at e2
      have rx' : Rp B' x w := rx.kp (Kp.of s1)
      have go := Go.new s2 (o := HO.tup [.bl k, w]) hT
      exact ⟨_, .tup [.bl k, x], go, by simp [ex], .tup upd_same (.cons (.bl k) (.cons (rx'.up go) .nil))⟩
  | _ => cases e
/-! ### {} for tuples as keys, kept for good -/
theorem eo_dnilT : EvO (tFrz tDNewT) σ B H (some (U.dit [])) := fun z e B1 H1 g Q q => by
  cases e
  intro p hp
  refine ⟨p, _, rfl, upd_same, trivial, fun od => ?_⟩
  rw [upd_upd]
  exact q _ _ _ (Go.new g.bh hp) (.dit upd_same .nil)
end
end Dn
set_option Elab.async false
set_option linter.all false
set_option maxRecDepth 100000
set_option maxHeartbeats 2000000
namespace Dn
open PySem L2 StX
variable [CTab]
section
variable {vs : List V} {H : Hp} {Q : VK} {E : XK}
theorem sp5 {f : U → U → U → U → U → Option U} (h : spU (a5 f) vs H Q E) : ∃ B x y z t o v w u q p r, vs = [v, w, u, q, p] ∧ Same B H ∧ Rp B x v ∧ Rp B y w ∧ Rp B z u ∧ Rp B t q ∧ Rp B o p ∧ f x y z t o = some r ∧ ∀ v B2 H2, Go B H B2 H2 → Rp B2 r v → Q v H2 := by
  obtain ⟨B, xs, r, s, rs, e, q⟩ := h
  match xs, rs, e with
  | _, .cons r1 (.cons r2 (.cons r3 (.cons r4 (.cons r5 .nil)))), e => exact ⟨B, _, _, _, _, _, _, _, _, _, _, r, rfl, s, r1, r2, r3, r4, r5, e, q⟩
end
/-! ### [.., *x, ..] -/
def U.sitems : U → Option (List U)
  | .tup xs => some xs
  | .tpd xs => some xs
  | .lst xs => some xs
  | .frl xs => some xs
  | _ => none
def starO (a : Option U) (b : Option (List U)) : Option (List U) := a.bind fun x => x.sitems.bind fun xs => b.map fun r => xs ++ r
theorem pa_starK {X : Cx} {K : PySem.W.Frag} (hK : X.K = K) {e : Expr} {es : List Expr} {te : TE} {t : TA} {p : Pos} (he : PE X e te) (hr : PA X es t) (hs : starEach (.Starred e p :: es) X.env = (true, eval e X.env) :: starEach es X.env := by rfl) : PA X (.Starred e p :: es) (tStar K te t) := by
  subst hK
  exact pa_star he hr hs
theorem ea_star {K : PySem.W.Frag} {σ : St} {B H : Hp} {te : TE} {tr : TA} {oa : Option U} {ol : Option (List U)} (h : EvO te σ B H oa) (hr : EvA tr σ B H ol) : EvA (tStar K te tr) σ B H (starO oa ol) := fun z e B1 H1 g Q q => by
  obtain ⟨x, ex, e⟩ := bind_some e
  obtain ⟨xs, exs, e⟩ := bind_some e
  obtain ⟨r, er, e⟩ := map_some e
  subst e
  refine h x ex B1 H1 g _ fun v B2 H2 g2 r2 => ?_
  have fin : ∀ ws, Rps B2 xs ws → tr σ H2 fun ys H3 => Q (ws ++ ys) H3 := fun ws rw' => hr r er B2 H2 (g.trans g2) _ fun vs B3 H3 g3 r3 => q _ B3 H3 (g2.trans g3) ((rw'.up g3).append r3)
  cases r2 with
  | @tup a ys vs h r => cases exs; exact ⟨a, vs, rfl, .inl (SqT.of (g2.bh _ _ h)), fin vs r⟩
  | @tpd a ys vs o h hd r => cases exs; exact ⟨a, vs, rfl, .inl (.inl (.inr ⟨o, g2.bh _ _ h⟩)), fin vs r⟩
  | @lst a ys vs h r => cases exs; exact ⟨a, vs, rfl, .inr (SqL.of (g2.bh _ _ h)), fin vs r⟩
  | @frl a ys vs o h r => cases exs; exact ⟨a, vs, rfl, .inr (.inl (.inr ⟨o, g2.bh _ _ h⟩)), fin vs r⟩
  | _ => cases exs
end Dn
namespace Dn
open PySem L2
variable [CTab]
def tIfT (tt tb tc : TT) : TT := fun σ H Q => tt σ H fun b H1 => if b = true then tb σ H1 Q else tc σ H1 Q
theorem pt_ifT {X : Cx} {t b c : Expr} {pos : Pos} {tt tb tc : TT} (ht : PT X t tt) (hb : PT X b tb) (hc : PT X c tc) : PT X (.IfExp t b c pos) (tIfT tt tb tc) := by
  refine ⟨fun pins s σ H Q I h => ?_⟩
  refine PyProof.Rows.isTrue_IfExp (thn (ht.run pins s σ H _ I h) fun v s1 ⟨H1, I1, q1⟩ => ?_)
  cases v with
  | true => exact hb.run pins s1 σ H1 Q I1 q1
  | false => exact hc.run pins s1 σ H1 Q I1 q1
theorem et_ifT {σ : St} {B H : Hp} {tt tb tc : TT} {o a b : Option Bool} (ht : EvT tt σ B H o) (hb : EvT tb σ B H a) (hc : EvT tc σ B H b) : EvT (tIfT tt tb tc) σ B H (ifO o a b) := fun z e B1 H1 g Q q => by
  obtain ⟨x, ex, e⟩ := bind_some e
  refine ht x ex B1 H1 g _ fun B2 H2 g2 => ?_
  cases x with
  | true => exact hb z (by simpa using e) B2 H2 (g.trans g2) Q fun B3 H3 g3 => q B3 H3 (g2.trans g3)
  | false => exact hc z (by simpa using e) B2 H2 (g.trans g2) Q fun B3 H3 g3 => q B3 H3 (g2.trans g3)
end Dn
set_option Elab.async false
set_option linter.all false
set_option maxRecDepth 100000
set_option maxHeartbeats 2000000
namespace Dn
open PySem PySem.Spec PyProof.Rows L2
variable [CTab]
/-! ### a def with () as its last default -/
def EtK (K : PySem.W.Frag) : Prop := ∃ (o : Obj) (n : Nat), K.lookup CTab.et = some o ∧ o.cls = .type "tuple" ∧ o.data = .seq #[] n
theorem EtK.sq {K : PySem.W.Frag} (h : EtK K) {H : Hp} : SqT K H CTab.et [] := by
  obtain ⟨o, n, h1, h2, h3⟩ := h
  exact .inr ⟨o, #[], n, h1, h2, h3, Nat.zero_le _, .nil⟩
def inE : U → U → Option U
  | .str _, .mt => some (.bl false)
  | _, _ => none
theorem op_inSeqK {X : Cx} {K : PySem.W.Frag} (hK : X.K = K) : OpR X (compareOp .In) (rIn K false) := by
  subst hK
  exact op_in_seq
theorem rv_inE {K : PySem.W.Frag} (t : EtK K) : RV (rIn K false) inE := fun x y z e v w B H s rx ry Q q => by
  cases rx with
  | str i =>
    cases ry with
    | mt =>
      cases e
      exact ⟨CTab.et, [], rfl, .inr t.sq, rfl, rfl, q _ B H (Go.refl s) (.bl false)⟩
    | _ => cases e
  | _ => cases ry <;> cases e
abbrev FunE (K : PySem.W.Frag) (x qual : Str) (st : Stmt) (f : Addr) (fd : FuncData) : Prop := FunD K x qual (defArgs st) (defBody st) (defScope st) [V.ref CTab.et] [] f fd
section
variable {P : Program} {w : World} {K : PySem.W.Frag} {mg : Str → Option Value} {base : Heap}
theorem funE_ok {x qual : Str} {st : Stmt} {f : Addr} {fd : FuncData} {N ps : List Str} {k : Nat} {sp : Sp} (F : FunE K x qual st f fd) (S : FnScope N ps (defScope st)) (len : ∀ vs H Q E, sp vs H Q E → vs.length = ps.length)
    (hbody : ∀ (cdv : Value) (A : Around) (outer : List Env) (s : Shared) (H : Hp) (vs : List V) (Q : VK) (E : XK), Room k (A.deeper (envOfC qual (defScope st) s.heap.objs.size f cdv)) → sp vs H Q E →
      ∃ t, PSs (cxOf CX0 P w K mg base N qual (defScope st) f cdv A outer s H E).nox (defBody st) t ∧ t { nx := fun _ H' => Q .non H', rt := Q } (start N vs) H) : FnOk P w K mg base CX0 (k + 1) f fd ps sp :=
  FunD.ok F S len fun cdv A outer s H vs Q E hr hsp => by
    obtain ⟨t, h, q⟩ := hbody cdv A outer s H vs Q E hr hsp
    exact ⟨t, h.nox, q⟩
theorem funE_mk {x qual : Str} {st : Stmt} {f dt : Addr} {oc : Value} {od an : Option Addr} {osl : Array (Option Value)} {kV doc pm cdv ct : Value} {ot : Obj} {n : Nat} (l : K.lookup f = some ⟨oc, od, .func (PySem.W.fnOf x qual (defArgs st) (defBody st) (defScope st) (.ref dt) kV doc pm an cdv ct), osl⟩)
    (lt : K.lookup dt = some ot) (le : ot.data = .seq #[.ref CTab.et] n) (c : PySem.W.codeIn K cdv qual = true) (k : PySem.W.keepIn K (.ref f) = true) : FunE K x qual st f (PySem.W.fnOf x qual (defArgs st) (defBody st) (defScope st) (.ref dt) kV doc pm an cdv ct) :=
  ⟨⟨oc, od, _, kV, doc, pm, an, cdv, ct, osl, rfl, l, c, (Or.inr ⟨(fun z => by cases z), dt, ot, [Value.ref CTab.et], n, rfl, lt, le, .cons rfl .nil⟩ : DflV K (.ref dt) [V.ref CTab.et]), (Or.inl rfl : KwdV K kV [])⟩, k⟩
theorem binds_all {fd : FuncData} {ps : List Str} (h : ∃ ds, Vals [] ds ∧ Binds K fd ps ds) : Binds K fd ps [] := by
  obtain ⟨ds, r, b⟩ := h
  cases r
  exact b
end
theorem eo_callE {σ : L2.St} {B H : Hp} {tl : TA} {ol : Option (List U)} {m : List U → Option U} {E : XK} (h : EvA tl σ B H ol) : EvO (tCall (spU m) [V.ref CTab.et] E tl) σ B H (callO (fun xs => m (xs ++ [U.mt])) ol) := fun z e B1 H1 g Q q => by
  obtain ⟨x, ex, e⟩ := bind_some e
  refine h x ex B1 H1 g _ fun vs B2 H2 g2 r => ?_
  exact ⟨B2, x ++ [.mt], z, g2.bh, r.append (.cons .mt .nil), e, fun v B3 H3 g3 r3 => q v B3 H3 (g2.trans g3) r3⟩
end Dn
set_option Elab.async false
set_option linter.all false
set_option maxRecDepth 100000
set_option maxHeartbeats 4000000
namespace Dn
open PySem PySem.Spec PyProof.Rows L2 Builtin Builtin.ObjectAttr
abbrev veTail : List Value := [.type "ValueError", .type "Exception", .type "BaseException", .type "object"]
abbrev aeTail : List Value := [.type "ArithmeticError", .type "Exception", .type "BaseException", .type "object"]
/-- what the written part says of an own exception class over a built-in one -/
structure OexB (K : PySem.W.Frag) (C : Addr) (initId : String) : Prop where
  cls : ∃ newId B bmB, ExcBaseFacts B newId initId bmB ∧ StoreFacts B bmB "object.__setattr__" "object" ∧ PySem.W.excInitIn K C bmB newId = true ∧ PySem.W.excOver K C bmB = true
  hd : PySem.W.hasDictIn K C = true
structure OexG (K : PySem.W.Frag) (C : Addr) : Prop where
  base : ∃ initId, OexB K C initId
  sa : PySem.W.findIn K (.ref C) "__setattr__" = some (some (.builtin "object.__setattr__"))
  kC : PySem.W.keepIn K (.ref C) = true
section
variable {K : PySem.W.Frag} {C : Addr}
/-- as one look: over ValueError, over ArithmeticError -/
def oexB (K : PySem.W.Frag) (tl : List Value) (n : String) (C : Addr) : Bool := PySem.W.excInitIn K C tl n && (PySem.W.excOver K C tl && PySem.W.hasDictIn K C)
def oexG (K : PySem.W.Frag) (tl : List Value) (n : String) (C : Addr) : Bool := oexB K tl n C && (decide (PySem.W.findIn K (.ref C) "__setattr__" = some (some (.builtin "object.__setattr__"))) && PySem.W.keepIn K (.ref C))
theorem oexB_VE (h : oexB K veTail "ValueError.__new__" C = true) : OexB K C "ValueError.__init__" := by
  obtain ⟨h1, h⟩ := Bool.and_eq_true_iff.mp h
  obtain ⟨h2, h3⟩ := Bool.and_eq_true_iff.mp h
  exact ⟨⟨_, _, _, F.excBase_ValueError, F.store_ValueError, h1, h2⟩, h3⟩
theorem oexB_AE (h : oexB K aeTail "ArithmeticError.__new__" C = true) : OexB K C "ArithmeticError.__init__" := by
  obtain ⟨h1, h⟩ := Bool.and_eq_true_iff.mp h
  obtain ⟨h2, h3⟩ := Bool.and_eq_true_iff.mp h
  exact ⟨⟨_, _, _, F.excBase_ArithmeticError, F.store_ArithmeticError, h1, h2⟩, h3⟩
theorem oexG_VE (h : oexG K veTail "ValueError.__new__" C = true) : OexG K C := by
  obtain ⟨h1, h⟩ := Bool.and_eq_true_iff.mp h
  obtain ⟨h2, h3⟩ := Bool.and_eq_true_iff.mp h
  exact ⟨⟨_, oexB_VE h1⟩, of_decide_eq_true h2, h3⟩
theorem oexG_AE (h : oexG K aeTail "ArithmeticError.__new__" C = true) : OexG K C := by
  obtain ⟨h1, h⟩ := Bool.and_eq_true_iff.mp h
  obtain ⟨h2, h3⟩ := Bool.and_eq_true_iff.mp h
  exact ⟨⟨_, oexB_AE h1⟩, of_decide_eq_true h2, h3⟩
/-- in the words of the store -/
structure OexS (K : PySem.W.Frag) (C : Addr) (B : String) (bmB : List Value) : Prop where
  sf : StoreFacts B bmB "object.__setattr__" "object"
  ov : PySem.W.excOver K C bmB = true
  cd : ∃ cd, PySem.W.clsIn K C = some cd ∧ cd.hasDict = true
theorem OexG.store (T : OexG K C) : ∃ B bmB, OexS K C B bmB := by
  obtain ⟨_, ⟨_, B, bmB, _, sf, _, ov⟩, hd⟩ := T.base
  exact ⟨B, bmB, sf, ov, PySem.W.any_some hd⟩
theorem taker_none {name : Str} (h : PySem.W.findIn K (.ref C) name = some none) : PySem.W.takerIn K C name = some none := by
  unfold PySem.W.takerIn
  rw [h]
  rfl
end
/-! ### self.f = y -/
section
variable {X : Cx} {pins : List (Addr × Obj)} {σ : L2.St} {H : Hp} {s : Shared} {a C dx : Addr} {f : Str} {y : V} {u : Value} {fs : List (Str × V)} {Q : Unit → Shared → Prop} {E : Value → Shared → Prop} {A : Around}
/-- two steps at once: a dict is laid at dx, the object at a is told of it -/
theorem inv_dict {h' : Heap} {t' : Nat} {o1 o2 : HO} {oa ob : Obj} (I : Inv X pins σ H s) (mu : Mut (H a)) (he : s.heap.get? a = some oa) (fr : oa.isFreed = false) (hd : s.heap.objs.size ≤ dx) (k : ∀ b o, b ≠ a → s.heap.get? b = some o → h'.get? b = some o) (hb : h'.get? a = some ob)
    (n1 : ∀ h1 : Heap, (∀ o, h'.get? dx = some o → h1.get? dx = some o) → ObjOk X.prog X.w (upd H dx o1) h1 dx o1) (n2 : ObjOk X.prog X.w (upd (upd H dx o1) a o2) h' a o2) :
    Inv X pins σ (upd (upd H dx o1) a o2) { s with heap := h', toks := t' } := by
  have ne : a ≠ dx := Nat.ne_of_lt (Nat.lt_of_lt_of_le (Heap.lt_size he) hd)
  have ga : (h'.update a fun _ => oa).get? a = some oa := Heap.get?_update_self _ hb fr
  have go : ∀ b, b ≠ a → (h'.update a fun _ => oa).get? b = h'.get? b := fun b hb => Heap.get?_update_other _ _ (Ne.symm hb)
  have I1 : Inv X pins σ (upd H dx o1) { s with heap := h'.update a fun _ => oa, toks := t' } := I.laid (fun b o e => by
    by_cases z : b = a
    · rw [z] at e ⊢
      rw [ga, ← he, e]
    · rw [go b z]
      exact k b o z e) hd (n1 _ fun o e => (go dx ne.symm).trans e)
  exact I1.write (t' := t') (x := a) (e := a) (h' := h') (by rw [upd_ne ne]; exact mu) (.inl rfl) (fun b o z e => (go b z).symm.trans e) ⟨ob, hb⟩ n2
/-- the first field -/
theorem put_first (T : OexG X.K C) (I : Inv X pins σ H s) (e : H a = some (exo a C none)) (hno : PySem.W.findIn X.K (.ref C) f = some none) (ry : RelV y u)
    (h : ∀ dx s', H dx = none → dx ≠ a → Inv X pins σ (upd (upd H dx (exd dx [(f, y)])) a (exo a C (some dx))) s' → Q () s') : wpAny (model X.prog X.w) A (setAttr (.ref a) f u) Q E s := by
  obtain ⟨B, bmB, SF, ov, cd, hc, hd⟩ := T.store
  obtain ⟨t1, ho⟩ := exo_at I.hok e
  obtain ⟨hp, g, d, t, os⟩ := s
  have ox : PySem.W.InstAt hp a { cls := .ref C, dict := none, data := .fields #[.ref t1, .none, .none, .none, .bool false, .none] } C none := ⟨ho, rfl, rfl, trivial⟩
  refine PySem.W.set_plain I.kIn ox T.sa (PySem.W.osa_openX SF I.kIn ox ov (taker_none hno) fun b => ?_)
  have lt : a < hp.objs.size := Heap.lt_size ho
  have ho1 := Heap.get?_push_of_some (PySem.W.dictOf [] 0) ho
  refine wpAny_bind (wpAny_pure (wpAny_bind (PySem.W.instanceDict_exc ho (PySem.W.looks_clsIn I.kIn hc) hd ?_)))
  show wpAny _ _ (storeInDict hp.objs.size (.str f t) f u) _ _ ⟨_, g, d, _, os⟩
  refine HandSPX.store_in_new ⟨PySem.W.dictOf [] 0, #[], 0, ?_, rfl, fun _ z => absurd z (by simp), fun _ => rfl⟩ fun h' tk' hn sb => ?_
  · rw [Heap.get?_update_other _ _ (Nat.ne_of_lt lt)]
    exact Heap.get?_push_at rfl rfl
  · have na : a ≠ hp.objs.size := Nat.ne_of_lt lt
    have hb := (sb.2 a na).trans (Heap.get?_update_self (fun o => { o with dict := some hp.objs.size }) ho1 rfl)
    refine h hp.objs.size _ (I.hok.fresh (Nat.le_refl _)) na.symm (inv_dict (t' := tk') (h' := h') (oa := _) I (by rw [e]; exact True.intro) ho rfl (Nat.le_refl _) (fun b o z q => ?_) hb (fun h1 k1 => exd_ok (hn.at k1) (relO_put (fs := []) ry fun g => True.intro)) (exo_ok hb))
    rw [sb.2 b (Nat.ne_of_lt (Heap.lt_size q)), Heap.get?_update_other _ _ (Ne.symm z)]
    exact Heap.get?_push_of_some _ q
/-- a further one -/
theorem put_next (T : OexG X.K C) (I : Inv X pins σ H s) (e : H a = some (exo a C (some dx))) (ed : H dx = some (exd dx fs)) (hl : fs.length ≤ 900) (hno : PySem.W.findIn X.K (.ref C) f = some none) (ry : RelV y u)
    (h : ∀ s', Inv X pins σ (upd H dx (exd dx ((f, y) :: fs))) s' → Q () s') : wpAny (model X.prog X.w) A (setAttr (.ref a) f u) Q E s := by
  obtain ⟨B, bmB, SF, ov, cd, hc, hd⟩ := T.store
  obtain ⟨t1, ho⟩ := exo_at I.hok e
  obtain ⟨mA, hns, rel⟩ := exd_at I.hok ed
  obtain ⟨hp, g, d, t, os⟩ := s
  obtain ⟨oD, _, _, hoD, _, _⟩ := hns.count (within_of rel)
  have ox : PySem.W.InstAt hp a { cls := .ref C, dict := some dx, data := .fields #[.ref t1, .none, .none, .none, .bool false, .none] } C (some oD) := ⟨ho, rfl, rfl, hoD⟩
  refine PySem.W.set_plain I.kIn ox T.sa (PySem.W.osa_openX SF I.kIn ox ov (taker_none hno) fun b => ?_)
  unfold storeInOwnDict ownDictForStores
  refine wpAny_bind (wpAny_pure (wpAny_bind ?_))
  unfold instanceDict
  have lk : PySem.W.Looks (model X.prog X.w) hp (classData C) cd := PySem.W.looks_clsIn I.kIn hc
  refine wpAny_bind (wpAny_loadPart ho (wpAny_bind (lk.at ?_)))
  rw [hd]
  refine wpAny_pure ?_
  show wpAny _ _ (storeInDict dx (.str f t) f u) _ _ ⟨hp, g, d, _, os⟩
  refine PySem.OEX.store_in_old hns (within_of rel) (by rw [List.length_map]; omega) fun h' tk' hn sb => ?_
  obtain ⟨oN, _, _, hoN, _⟩ := id hn
  exact h _ (I.write (t' := tk') (x := dx) (e := dx) (o := exd dx ((f, y) :: fs)) (by rw [ed]; exact True.intro) (.inl rfl) (fun b o z q => (sb.2 b z).trans q) ⟨oN, hoN⟩ (exd_ok hn (relO_put ry rel)))
end
def tOstX (K : PySem.W.Frag) (f : Str) (to te : TE) : TS := fun D σ H => te σ H fun y H1 => to σ H1 fun x H2 => ∃ a C : Addr, x = .ref a ∧ OexG K C ∧ PySem.W.findIn K (.ref C) f = some none ∧
  ((H2 a = some (exo a C none) ∧ ∀ dx, H2 dx = none → dx ≠ a → D.nx σ (upd (upd H2 dx (exd dx [(f, y)])) a (exo a C (some dx)))) ∨
    ∃ (dx : Addr) (fs : List (Str × V)), H2 a = some (exo a C (some dx)) ∧ H2 dx = some (exd dx fs) ∧ fs.length ≤ 900 ∧ D.nx σ (upd H2 dx (exd dx ((f, y) :: fs))))
theorem ps_ostX {X : Cx} {o e : Expr} {to te : TE} {f : Str} {p' pos : Pos} (ho : PE X o to) (he : PE X e te) (hs : swapsWith e (some (.Attribute o f p')) pos.line X.env = pure false := by rfl) : PS X (.Assign [.Attribute o f p'] e pos) (tOstX X.K f to te) := ⟨fun pins s σ H D I h =>
  plainObj_wpAny_Assign_Attribute (thn (he.run pins s σ H _ I h) fun v s1 ⟨y, H1, I1, r1, q1⟩ => thn (ho.run pins s1 σ H1 _ I1 q1) fun u s2 ⟨x, H2, I2, r2, a, C, ex, T, hno, q⟩ => by
    subst ex
    cases r2
    rcases q with ⟨ea, q⟩ | ⟨dx, fs, ea, ed, hl, q⟩
    · exact put_first T I2 ea hno r1 fun dx s' n ne J => ⟨σ, _, J, q dx n ne⟩
    · exact put_next T I2 ea ed hl hno r1 fun s' J => ⟨σ, _, J, q⟩) hs⟩
end Dn
namespace PySem
namespace Dnx
open Builtin Builtin.ObjectAttr
/-! ### an own class called, its own __init__ behind it -/
section
variable {prog : Program} {w : World} {A : Around} {R : Result → Shared → Prop} {h : Heap} {g : Array GenState} {d : Drawn} {t : Nat} {os : OsState}
variable {nm q : Str} {C N : Addr} {bs bm bmB : List Value} {hdct : Bool} {sn : List Str} {sub : List Value} {ab : Bool} {col : Option Bool} {dd : Option Addr} {k0 k1 k2 k3 k5 : Option Value} {B newId initId : String} {us : List Value} {kw : List (Str × Value)}
/-- the new object, its values in a tuple ahead of it -/
abbrev excH (h : Heap) (us : List Value) (C : Addr) : Heap := (h.push (W.kdv_tup us)).push (HandSPX.excO C h.objs.size)
theorem exc_new (F : ExcBaseFacts B newId initId bmB) (hT : ∀ X : String, bm.contains (.type X) = bmB.contains (.type X)) (hC : h.get? C = some (excClassObj nm q C N bs bm hdct sn sub ab col dd k0 k1 k2 k3 k5 newId)) (hz : us.length ≤ sizeLine)
    (hq : R (.ok (.ret (.ref (h.objs.size + 1)))) ⟨excH h us C, g, d, t, os⟩) : codeAny (model prog w) A (.call (.builtin newId) ⟨.ref C :: us, kw⟩) R ⟨h, g, d, t, os⟩ := by
  have at_ : ∀ Y : String, (Value.ref C :: bm).contains (.type Y) = bmB.contains (.type Y) := fun Y => by
    rw [List.contains_cons, hT]; rfl
  have c1 := (at_ B).trans F.hasB
  have c2 := (at_ "AttributeError").trans F.noAttr
  have c3 := (at_ "NameError").trans F.noName
  have n1 := F.noStar
  have n2 := F.ends
  refine codeAny_call_builtin_code (Code.quiet_builtin _ F.quiet) ?_
  simp only [checkBuiltinCall, F.newKind, F.newSplit, F.newRow]
  repeat (first | refine wpAny_loadPart_at hC ?_ | (refine wpAny_isSubtype_exc hC ?_; rw [c1]) | refine wpAny_staticBase_exc hC ?_ | refine wpAny_madeBy_exc hC ?_ | simp only [bne_self_eq_false, Bool.false_eq_true, if_false] | wp_step)
  refine codeAny_builtinAt F.entry ?_
  unfold Builtin.«BaseException.__new__»
  refine wpAt_bind (wpAt_bind (wpAt_stack fun p below => wpAt_of_wpAny ?_))
  wp_walk
  refine wpAt_of_wpAny ?_
  rw [F.owner]
  repeat (first | with_reducible refine wpAny_madeHere_exc F.canon hC ?_ | with_reducible refine wpAny_loadPart_at hC ?_ | (with_reducible refine wpAny_isSubtype_exc hC ?_; first | rw [c1] | rw [c2] | rw [c3]) | wp_step)
  show R _ _
  rw [Heap.size_push]
  exact hq
theorem exc_tc {fI : Addr} {Q : Fin → Shared → Prop} {E : Value → Shared → Prop} (F : ExcBaseFacts B newId initId bmB) (hT : ∀ X : String, bm.contains (.type X) = bmB.contains (.type X)) (hC : h.get? C = some (excClassObj nm q C N bs bm hdct sn sub ab col dd k0 k1 k2 k3 k5 newId))
    (hi : W.Looks (model prog w) h (typeLookup (.ref C) "__init__") (some (.ref fI))) (hb : ∀ self, W.Looks (model prog w) h (bindSpecial (.ref fI) self) (.ref fI, [self])) (hz : us.length ≤ sizeLine)
    (hq : codeAny (model prog w) A (.call (.ref fI) ⟨.ref (h.objs.size + 1) :: us, kw⟩) (fun r s' => match r with | .ok (.ret v) => v = .none ∧ Q (.done (.ret (.ref (h.objs.size + 1)))) s' | .ok _ => False | .error e => E e s') ⟨excH h us C, g, d, t, os⟩) :
    wpAny (model prog w) A (Builtin.«type.__call__» ⟨.ref C :: us, kw⟩) Q E ⟨h, g, d, t, os⟩ := by
  repeat (first | with_reducible refine wpAny_loadPart_at hC ?_ | with_reducible refine wpAny_madeBy_exc hC ?_ | wp_step)
  refine exc_new F hT hC hz ?_
  have up : ∀ b o, h.get? b = some o → (excH h us C).get? b = some o := fun b o e => Heap.get?_push_of_some _ (Heap.get?_push_of_some _ e)
  have me : (excH h us C).get? (h.objs.size + 1) = some (HandSPX.excO C h.objs.size) := by heap_get
  have cC := up _ _ hC
  have own : (Value.ref C :: bm).contains (.ref C) = true := by simp
  have iI := hi.keeps up
  have iB := (hb (.ref (h.objs.size + 1))).keeps up
  show wpAny _ _ _ _ _ _
  unfold isInstance
  repeat (first | with_reducible refine wpAny_loadPart_at me ?_ | (with_reducible refine wpAny_isSubtype_exc cC ?_; rw [own]) | wp_step)
  show wpAny _ _ (typeLookup (.ref C) _) _ _ _
  refine iI.at (wpAny_holding (wpAny_bind (iB.at (wpAny_bind (wpAny_call (codeAny_mono hq fun r s' z => ?_))))))
  match r, z with
  | .error e, z => exact z
  | .ok .next, z => exact z.elim
  | .ok .brk, z => exact z.elim
  | .ok .cont, z => exact z.elim
  | .ok (.ret v), z =>
    obtain ⟨rfl, z⟩ := z
    first
      | exact wpAny_pure (wpAny_pure z)
      | (wp_walk; exact z)
theorem exc_call {fI : Addr} (F : ExcBaseFacts B newId initId bmB) (hT : ∀ X : String, bm.contains (.type X) = bmB.contains (.type X)) (hC : h.get? C = some (excClassObj nm q C N bs bm hdct sn sub ab col dd k0 k1 k2 k3 k5 newId))
    (hi : W.Looks (model prog w) h (typeLookup (.ref C) "__init__") (some (.ref fI))) (hb : ∀ self, W.Looks (model prog w) h (bindSpecial (.ref fI) self) (.ref fI, [self])) (hz : us.length ≤ sizeLine)
    (hq : codeAny (model prog w) (A.under (.builtin "type.__call__" ⟨.ref C :: us, kw⟩)) (.call (.ref fI) ⟨.ref (h.objs.size + 1) :: us, kw⟩) (W.InitBack (h.objs.size + 1) R) ⟨excH h us C, g, d, t, os⟩) :
    codeAny (model prog w) A (.call (.ref C) ⟨us, kw⟩) R ⟨h, g, d, t, os⟩ := by
  have l1 := tc_lookup
  have l2 := tc_bind (.ref C)
  have ty : (⟨h, g, d, t, os⟩ : Shared).TypeIs (.ref C) "type" := ⟨_, hC, rfl⟩
  refine codeAny_of_tree (show wpAny _ _ (callAny (.ref C) _) _ _ _ from ?_)
  repeat (any_goals (first | assumption | with_reducible refine wpAny_loadPart_at hC ?_ | wp_step))
  refine ⟨rfl, codeAny_call_builtin_at (Code.quiet_builtin _ (by decide +kernel)) entry_typeCall (wpAny_check_type_call_sub hC (exc_tc F hT hC hi hb hz (codeAny_mono hq fun r s' z => ?_)))⟩
  match r, z with
  | .error e, z => exact z
  | .ok .next, z => exact z
  | .ok .brk, z => exact z
  | .ok .cont, z => exact z
  | .ok (.ret v), z => exact z
end
end Dnx
end PySem
namespace Dn
open PySem PySem.Spec PyProof.Rows L2 PySem.Dnx
/-! ### C(..) as a value -/
section
variable {X : Cx} {CX : CXT} {C fI : Addr} {k : Nat} {fd : FuncData} {ps : List Str} {sp : Sp}
theorem exc_made {pins : List (Addr × Obj)} {σ : L2.St} {H1 : Hp} {s1 : Shared} {us : List Value} {kw : List (Str × Value)} {Q : VK} (T : OexG X.K C) (iC : PySem.W.findIn X.K (.ref C) "__init__" = some (some (.ref fI))) (tI : PySem.W.typeIn X.K (.ref fI) = some (.type "function"))
    (F1 : FnOk X.prog X.w X.K X.mg X.base CX k fI fd ps sp) (hr : Room (k + 1) X.A) (hx : Passes CX X (fun _ _ _ => False)) (I1 : Inv X pins σ H1 s1) (hz : us.length ≤ sizeLine)
    (go : ∀ a s2, H1 a = none → X.K.In s2.heap → ∃ ws vs, BindsTo s2 fd ⟨.ref a :: us, kw⟩ (ps.zip ws) ∧ Vals vs ws ∧ sp vs (upd H1 a (exo a C none)) (fun v H2 => v = .non ∧ Q (.ref a) H2) (fun _ _ _ => False)) :
    wpAny (model X.prog X.w) X.A (call (.ref C) us kw) (EP X pins σ Q) X.xe s1 := by
  obtain ⟨_, ⟨newId, B, bmB, FB, _, hI, _⟩, _⟩ := T.base
  obtain ⟨hp, g, dr, tk, os⟩ := s1
  obtain ⟨nm, N, qn, bs, bm, hdct, sn, sub, ab, col, dd, k0, k1, k2, k3, k5, hC, hT⟩ := PySem.W.excInit_of I1.kIn hI
  have hsz : hp.objs.size ≤ hp.objs.size + 1 := Nat.le_succ _
  have up : ∀ b o, hp.get? b = some o → (excH hp us C).get? b = some o := fun b o e => Heap.get?_push_of_some _ (Heap.get?_push_of_some _ e)
  have me : (excH hp us C).get? (hp.objs.size + 1) = some (HandSPX.excO C hp.objs.size) := by heap_get
  have I2 : Inv X pins σ (upd H1 (hp.objs.size + 1) (exo (hp.objs.size + 1) C none)) ⟨excH hp us C, g, dr, tk, os⟩ := I1.laid (t' := tk) (h' := excH hp us C) up hsz (exo_ok me)
  obtain ⟨ws, vs, hb, rv, hq⟩ := go (hp.objs.size + 1) ⟨excH hp us C, g, dr, tk, os⟩ (I1.hok.fresh hsz) I2.kIn
  refine wpAny_call (exc_call FB hT hC (PySem.W.looks_findIn I1.kIn iC) (fun self => PySem.W.bind_fn I1.kIn self tI) hz
    (codeAny_mono (F1.run _ X.stack _ _ ⟨.ref (hp.objs.size + 1) :: us, kw⟩ ws vs _ (fun _ _ _ => False) (hr.make C us kw) (I2.env0.make C us kw) hb rv hq) fun r s' hq' => ?_))
  match r, hq' with
  | .error er, hq' => exact hx pins σ _ _ er s' I2 hq'
  | .ok .next, hq' => exact False.elim hq'
  | .ok .brk, hq' => exact False.elim hq'
  | .ok .cont, hq' => exact False.elim hq'
  | .ok (.ret u), hq' =>
    obtain ⟨v, H2, I', rv, ev, q2⟩ := I2.after hq'
    subst ev
    exact ⟨rv, .ref (hp.objs.size + 1), H2, I', rfl, q2⟩
end
end Dn
set_option Elab.async false
set_option linter.all false
set_option maxRecDepth 100000
set_option maxHeartbeats 4000000
namespace Dn
open PySem PySem.Spec PyProof.Rows L2
/-! ### C(e, ..), C(k = v, ..) as values -/
def tExV (C : Addr) (sp : Sp) (ta : TA) : TE := fun σ H Q => ta σ H fun vs H1 => vs.length ≤ 1000 ∧ ∀ a, H1 a = none → sp (.ref a :: vs) (upd H1 a (exo a C none)) (fun v H2 => v = .non ∧ Q (.ref a) H2) (fun _ _ _ => False)
theorem pe_excV {X : Cx} {e : Expr} {es : List Expr} {ta : TA} {p pos : Pos} {CX : CXT} {x : Str} {C fI : Addr} {k : Nat} {fd : FuncData} {ps : List Str} {sp : Sp} (T : OexG X.K C) (iC : PySem.W.findIn X.K (.ref C) "__init__" = some (some (.ref fI))) (tI : PySem.W.typeIn X.K (.ref fI) = some (.type "function"))
    (F1 : FnOk X.prog X.w X.K X.mg X.base CX k fI fd ps sp) (hr : Room (k + 1) X.A) (hb : Binds X.K fd ps []) (hx : Passes CX X (fun _ _ _ => False)) (hg : Gl X x) (hm : X.mg x = some (.ref C)) (ha : PA X (e :: es) ta)
    (hdb : (x == ("__debug__" : Str)) = false := by decide) (he : starEach (e :: es) X.env = (false, eval e X.env) :: starEach es X.env := by rfl) (hpl : (backTo pos (starEach es X.env)).any (·.1) = false := by rfl) :
    PE X (.Call (.Name x p) (e :: es) [] pos) (tExV C sp ta) := ⟨fun pins s σ H Q I h => wpAny_Call_Name_kw (ld_glob I hg hm (PySem.W.callWith_K (h₀ := X.base) I.ok.mod.kin T.kC (thn (ha.run pos pins s σ H _ I h) fun us s1 ⟨vs, H1, I1, r1, hz, q1⟩ => ⟨I1.kIn,
      exc_made T iC tI F1 hr hx I1 (by rw [List.nil_append, ← Paired.length r1, sizeLine_eq]; omega) fun a s2 n X2 => by
        have r2 : Vals (V.ref a :: vs) (Value.ref a :: us) := .cons rfl r1
        have b := hb s2 (.ref a :: us) X2 (by rw [List.append_nil, ← r2.length]; exact F1.len _ _ _ _ (q1 a n))
        rw [List.append_nil] at b
        exact ⟨_, _, b, r2, q1 a n⟩⟩) he hpl) hdb)⟩
def tExK (C : Addr) (m : Nat) (sp : Sp) (gV : List V → List V → List V) (tk : TA) : TE := fun σ H Q => tk σ H fun zs H1 => zs.length = m ∧ ∀ a, H1 a = none → sp (gV [.ref a] zs) (upd H1 a (exo a C none)) (fun v H2 => v = .non ∧ Q (.ref a) H2) (fun _ _ _ => False)
section
variable {X : Cx} {kws : List Keyword} {ks : List Str} {tk : TA} {f : Str} {p pos : Pos} {g : List Value → List Value → List Value} {gV : List V → List V → List V}
theorem pe_excK {CX : CXT} {x : Str} {C fI : Addr} {k : Nat} {fd : FuncData} {ps : List Str} {sp : Sp} (T : OexG X.K C) (iC : PySem.W.findIn X.K (.ref C) "__init__" = some (some (.ref fI))) (tI : PySem.W.typeIn X.K (.ref fI) = some (.type "function"))
    (F1 : FnOk X.prog X.w X.K X.mg X.base CX k fI fd ps sp) (hr : Room (k + 1) X.A) (hb : KBn X.K fd ps 1 ks g gV) (hx : Passes CX X (fun _ _ _ => False)) (hg : Gl X x) (hm : X.mg x = some (.ref C)) (hkw : PK X kws tk)
    (hall : (backToKw pos (keywordEach kws X.env)).all (·.1.isSome) = true := by rfl) (hks : (backToKw pos (keywordEach kws X.env)).filterMap (·.1) = ks := by rfl) (hdb : (x == ("__debug__" : Str)) = false := by decide)
    (hpl : ((backTo pos (starEach [] X.env)).any (·.1) || (backToKw pos (keywordEach kws X.env)).any (·.1.isNone)) = false := by rfl) :
    PE X (.Call (.Name x p) [] kws pos) (tExK C ks.length sp gV tk) := by
  refine ⟨fun pins s σ H Q I h => wpAny_Call_Name_kw (ld_glob I hg hm (PySem.W.callWith_KW0 (h₀ := X.base) I.ok.mod.kin T.kC hall (thn (hkw.run pos pins s σ H _ I h) fun ws s1 ⟨zs, H1, I1, rz, l2, q1⟩ => ⟨I1.kIn, ?_⟩) hpl) hdb)⟩
  rw [hks]
  exact exc_made T iC tI F1 hr hx I1 (Nat.zero_le _) fun a s2 n X2 => ⟨_, _, hb.to _ [Value.ref a] ws X2 rfl (rz.length.symm.trans l2), hb.rel (vs := [.ref a]) (.cons rfl .nil) rz, q1 a n⟩
end
end Dn
set_option Elab.async false
set_option linter.all false
set_option maxRecDepth 100000
set_option maxHeartbeats 4000000
namespace Dn
open PySem PySem.Spec PyProof.Rows L2
section
variable {X : Cx}
/-- what stands at a: an exception of the class at C, its dict -/
def ExAt (H : Hp) (a C : Addr) (fs : List (Str × V)) : Prop := (H a = some (exo a C none) ∧ fs = []) ∨ ∃ dx, H a = some (exo a C (some dx)) ∧ H dx = some (exd dx fs)
theorem exAt_inst {pins : List (Addr × Obj)} {σ : L2.St} {H : Hp} {s : Shared} {a C : Addr} {fs : List (Str × V)} (I : Inv X pins σ H s) (h : ExAt H a C fs) : ∃ ox od, PySem.W.InstAt s.heap a ox C od := by
  rcases h with ⟨h, _⟩ | ⟨dx, h, hd⟩
  · obtain ⟨t1, ho⟩ := exo_at I.hok h
    exact ⟨_, none, ho, rfl, rfl, trivial⟩
  · obtain ⟨t1, ho⟩ := exo_at I.hok h
    obtain ⟨mA, hns, _⟩ := exd_at I.hok hd
    obtain ⟨od, hod, _⟩ := lookIn_ns hns
    exact ⟨_, some od, ho, rfl, rfl, hod⟩
/-- C(), the class has no __init__ of its own -/
def tEx0 (C : Addr) : TE := fun _ H Q => ∀ a, H a = none → Q (.ref a) (upd H a (exo a C none))
theorem pe_exc0 {x : Str} {C : Addr} {ii : String} {p pos : Pos} (T : OexB X.K C ii) (hi : PySem.W.findIn X.K (.ref C) "__init__" = some (some (.builtin ii)))
    (kC : PySem.W.keepIn X.K (.ref C) = true) (hg : Gl X x) (hm : X.mg x = some (.ref C)) (hdb : (x == ("__debug__" : Str)) = false := by decide) : PE X (.Call (.Name x p) [] [] pos) (tEx0 C) := by
  refine ⟨fun pins s σ H Q I h => ?_⟩
  obtain ⟨newId, B, bmB, FB, _, hI, _⟩ := T.cls
  obtain ⟨hp, g1, dr, tk, os⟩ := s
  obtain ⟨nm, N, qn, bs, bm, hdct, sn, sub, ab, col, dd, k0, k1, k2, k3, k5, hC, hT⟩ := PySem.W.excInit_of I.kIn hI
  refine wpAny_Call_Name_kw (ld_glob I hg hm (PySem.W.callWith_K0 I.kIn kC (PySem.W.call_B FB hT hC (PySem.W.looks_findIn I.kIn hi) (Nat.zero_le _) fun h' k e1 e2 => ?_)) hdb)
  have hsz : hp.objs.size ≤ hp.objs.size + 1 := Nat.le_succ _
  exact ⟨.ref (hp.objs.size + 1), _, I.laid (t' := tk) (a := hp.objs.size + 1) (o := exo (hp.objs.size + 1) C none) k hsz (exo_ok e1), rfl, h _ (I.hok.fresh hsz)⟩
/-- e.f -/
def tXg (K : PySem.W.Frag) (f : Str) (te : TE) : TE := fun σ H Q => te σ H fun x H1 => ∃ (a C : Addr) (fs : List (Str × V)) (v : V), x = .ref a ∧ XfC K C ∧ PySem.W.findIn K (.ref C) f = some none ∧ ExAt H1 a C fs ∧ fs.lookup f = some v ∧ Q v H1
theorem pe_xg {K : PySem.W.Frag} (hK : X.K = K) {e : Expr} {te : TE} {pos : Pos} {n : Str} (he : PE X e te) (hb : attributeBase e n X.env (eval e X.env) = eval e X.env := by rfl) : PE X (.Attribute e n pos) (tXg K n te) := by
  subst hK
  refine ⟨fun pins s σ H Q I h => ?_⟩
  refine attr_of hb (thn (he.run pins s σ H _ I h) fun u s1 hh => ?_)
  obtain ⟨x, H1, I1, rx, a, C, fs, v, ex, T, hno, ea, l, q⟩ := hh
  subst ex
  obtain rfl : u = Value.ref a := rx
  rcases ea with ⟨_, e0⟩ | ⟨dx, ea, ed⟩
  · rw [e0] at l
    cases l
  · obtain ⟨t1, ho⟩ := exo_at I1.hok ea
    obtain ⟨mA, hns, hr⟩ := exd_at I1.hok ed
    obtain ⟨od, hod, hl⟩ := lookIn_ns hns
    obtain ⟨u, hu, ru⟩ := RelO.some_of (v := v) (o := mA n) (by rw [← l]; exact hr n)
    have J : PySem.W.InstAt s1.heap a _ C (some od) := ⟨ho, rfl, rfl, hod⟩
    exact HandSPX.exc_get I1.kIn J T.ga T.gg T.exC (PySem.W.findObj_own T.hdC hno rfl (by rw [hl, hu])) (handed_of ru) ⟨v, H1, I1.tok _, ru, q⟩
theorem cls_some {K : PySem.W.Frag} {D : Addr} (h : PySem.W.hasDictIn K D = true) : (PySem.W.clsIn K D).isSome = true := by
  obtain ⟨cd, e, _⟩ := PySem.W.any_some h
  rw [e]
  rfl
/-- isinstance(e, c) -/
def rIsX (K : PySem.W.Frag) : List V → Hp → VK → Prop := fun xs H Q => ∃ (a D : Addr) (fs : List (Str × V)) (c : V) (cv : Value) (b : Bool), xs = [.ref a, c] ∧ ExcC K D ∧ ExAt H a D fs ∧ (∀ u, RelV c u → u = cv) ∧ PySem.W.kitOne K (.ref D) cv = some b ∧ Q (.bl b) H
theorem call_isX {K : PySem.W.Frag} (hK : X.K = K) : CallR X (.builtin "isinstance") (rIsX K) := by
  subst hK
  intro pins s σ H xs us Q I r h
  obtain ⟨a, D, fs, c, cv, b, rfl, C, ea, hcv, e, q⟩ := h
  cases r with
  | cons rx rr =>
    cases rr with
    | cons rt rr =>
      cases rr
      cases rx
      have ec := hcv _ rt
      subst ec
      obtain ⟨ox, od, J⟩ := exAt_inst I ea
      exact PySem.W.kia_one (PySem.W.kitx_exc (cls_some C.hd) C.hg C.hk C.hs C.ha C.hn C.ht C.hm) I.kIn J e (fun z => nomatch z) fun tk => ⟨.bl b, H, I.kept (t' := tk) fun _ _ z => z, rfl, q⟩
end
end Dn
set_option Elab.async false
set_option linter.all false
set_option maxRecDepth 100000
set_option maxHeartbeats 2000000
namespace Dn
open PySem PySem.Spec PyProof.Rows L2
variable [CTab]
/-! ### what an own __init__ that only keeps its values promises -/
def spI1 (C : Addr) (n : Str) : Sp := fun vs H Q _ => ∃ a v, vs = [.ref a, v] ∧ H a = some (exo a C none) ∧ ∀ dx, H dx = none → dx ≠ a → Q .non (upd (upd H dx (exd dx [(n, v)])) a (exo a C (some dx)))
def spI2 (C : Addr) (n m : Str) : Sp := fun vs H Q _ => ∃ a v u, vs = [.ref a, v, u] ∧ H a = some (exo a C none) ∧ ∀ dx, H dx = none → dx ≠ a → Q .non (upd (upd (upd H dx (exd dx [(n, v)])) a (exo a C (some dx))) dx (exd dx [(m, u), (n, v)]))
section
variable {P : Program} {w : World} {K : PySem.W.Frag} {mg : Str → Option Value} {base : Heap} {C : Addr} {n m p1 p2 qual : Str} {st : Stmt} {f : Addr} {fd : FuncData} {q1 q2 q3 q4 q5 q6 q7 q8 : Pos}
/-- def __init__(self, p): self.n = p -/
theorem ok_init1 (F : Fun K "__init__" qual st f fd) (S : FnScope ["self", p1] ["self", p1] (defScope st)) (T : OexG K C) (hno : PySem.W.findIn K (.ref C) n = some none)
    (hb : defBody st = [.Assign [.Attribute (.Name "self" q1) n q2] (.Name p1 q3) q4]) (hd : (p1 == ("__debug__" : Str)) = false) (hcd : (p1 == ("__classdict__" : Str)) = false)
    (hv0 : Vis (defScope st) "self") (hv1 : Vis (defScope st) p1) (hs : ∀ env, swapsWith (.Name p1 q3) (some (.Attribute (.Name "self" q1) n q2)) q4.line env = pure false) :
    FnOk P w K mg base CX0 1 f fd ["self", p1] (spI1 C n) := by
  refine F.ok S (fun vs H Q E h => ?_) (fun cdv A outer s H vs Q E hr h => ?_)
  · obtain ⟨a, v, rfl, _⟩ := h
    rfl
  · obtain ⟨a, v, rfl, ha, k⟩ := h
    rw [hb]
    refine ⟨_, pss_one (ps_ostX (pe_var (i := 0) rfl hv0 (by decide) (by decide)) (pe_var (i := 1) rfl hv1 hd hcd) (hs _)), ?_⟩
    refine ⟨v, rfl, .ref a, rfl, a, C, rfl, T, hno, .inl ⟨ha, fun dx h1 h2 => k dx h1 h2⟩⟩
theorem ok_init2 (F : Fun K "__init__" qual st f fd) (S : FnScope ["self", p1, p2] ["self", p1, p2] (defScope st)) (T : OexG K C) (hno : PySem.W.findIn K (.ref C) n = some none) (hno2 : PySem.W.findIn K (.ref C) m = some none)
    (hb : defBody st = [.Assign [.Attribute (.Name "self" q1) n q2] (.Name p1 q3) q4, .Assign [.Attribute (.Name "self" q5) m q6] (.Name p2 q7) q8]) (hd : (p1 == ("__debug__" : Str)) = false) (hcd : (p1 == ("__classdict__" : Str)) = false) (hd2 : (p2 == ("__debug__" : Str)) = false) (hcd2 : (p2 == ("__classdict__" : Str)) = false)
    (hv0 : Vis (defScope st) "self") (hv1 : Vis (defScope st) p1) (hv2 : Vis (defScope st) p2) (hs : ∀ env, swapsWith (.Name p1 q3) (some (.Attribute (.Name "self" q1) n q2)) q4.line env = pure false) (hs2 : ∀ env, swapsWith (.Name p2 q7) (some (.Attribute (.Name "self" q5) m q6)) q8.line env = pure false) :
    FnOk P w K mg base CX0 1 f fd ["self", p1, p2] (spI2 C n m) := by
  refine F.ok S (fun vs H Q E h => ?_) (fun cdv A outer s H vs Q E hr h => ?_)
  · obtain ⟨a, v, u, rfl, _⟩ := h
    rfl
  · obtain ⟨a, v, u, rfl, ha, k⟩ := h
    rw [hb]
    refine ⟨_, pss_cons (ps_ostX (pe_var (i := 0) rfl hv0 (by decide) (by decide)) (pe_var (i := 1) rfl hv1 hd hcd) (hs _)) (pss_one (ps_ostX (pe_var (i := 0) rfl hv0 (by decide) (by decide)) (pe_var (i := 2) rfl hv2 hd2 hcd2) (hs2 _))), ?_⟩
    refine ⟨v, rfl, .ref a, rfl, a, C, rfl, T, hno, .inl ⟨ha, fun dx h1 h2 => ?_⟩⟩
    refine ⟨u, rfl, .ref a, rfl, a, C, rfl, T, hno2, .inr ⟨dx, [(n, v)], upd_same, ?_, show 1 ≤ 900 by decide, k dx h1 h2⟩⟩
    rw [upd_ne h2, upd_same]
end
/-- by name, the second one first -/
theorem kb2s {K : PySem.W.Frag} {x qual : Str} {st : Stmt} {f : Addr} {fd : FuncData} {p0 p1 p2 : Str} (F : Fun K x qual st f fd)
    (h : ∀ (kV doc pm : Value) (an : Option Addr) (cdv ct u v t : Value), bindArgs (PySem.W.fnOf x qual (defArgs st) (defBody st) (defScope st) .none kV doc pm an cdv ct) ⟨[u], [(p2, v), (p1, t)]⟩ = pure [(p0, u), (p1, t), (p2, v)]) :
    KBn K fd [p0, p1, p2] 1 [p2, p1] (fun us ws => us ++ ws.reverse) (fun vs zs => vs ++ zs.reverse) := by
  obtain ⟨oc, od, kV, doc, pm, an, cdv, ct, osl, rfl, lk, hcd⟩ := F.ex
  refine ⟨fun s us ws X l1 l2 => ?_, fun r1 r2 => r1.append (Vals.reverse r2)⟩
  match us, ws, l1, l2 with
  | [u], [v, t], _, _ => exact BindsTo.of_eq (h kV doc pm an cdv ct u v t)
def Ex0K (K : PySem.W.Frag) (C : Addr) : Prop := ∃ ii, OexB K C ii ∧ PySem.W.findIn K (.ref C) "__init__" = some (some (.builtin ii))
theorem pe_exc0K {X : Cx} {K : PySem.W.Frag} (hK : X.K = K) {x : Str} {C : Addr} {p pos : Pos} (h : Ex0K K C) (kC : PySem.W.keepIn K (.ref C) = true) (hg : Gl X x) (hm : X.mg x = some (.ref C)) (hdb : (x == ("__debug__" : Str)) = false := by decide) : PE X (.Call (.Name x p) [] [] pos) (tEx0 C) := by
  subst hK
  obtain ⟨ii, T, hi⟩ := h
  exact pe_exc0 T hi kC hg hm hdb
/-! ### readings -/
def exc1 (C : Nat) (n : Str) : List U → Option U
  | [x] => some (.exc C [(n, x)])
  | _ => none
def exc2 (C : Nat) (n m : Str) : List U → Option U
  | [x, y] => some (.exc C [(m, y), (n, x)])
  | _ => none
def exc2s (C : Nat) (n m : Str) : List U → Option U
  | [y, x] => some (.exc C [(m, y), (n, x)])
  | _ => none
theorem upd_mid {H : Hp} {a d : Addr} {o1 o2 e : HO} : upd (upd (upd H a o1) d e) a o2 = upd (upd H d e) a o2 := by
  funext c
  by_cases h : c = a
  · subst h; rw [upd_same, upd_same]
  · rw [upd_ne h, upd_ne h]
    by_cases h2 : c = d
    · subst h2; rw [upd_same, upd_same]
    · rw [upd_ne h2, upd_ne h2, upd_ne h]
/-- two new objects, kept for good -/
theorem go_exc {B H : Hp} (s : Same B H) {a d : Addr} {o e : HO} (ha : H a = none) (hd : H d = none) (ne : d ≠ a) : Go B H (upd (upd B d e) a o) (upd (upd H d e) a o) := by
  have g1 := Go.new s (o := e) hd
  exact g1.trans (Go.new g1.bh (by rw [upd_ne (Ne.symm ne)]; exact ha))
theorem up_exc {B : Hp} {a d : Addr} {o e : HO} (ha : B a = none) (hd : B d = none) (ne : d ≠ a) : Same B (upd (upd B d e) a o) := fun b u h => by
  rw [upd_ne (ne_of_none h ha), upd_ne (ne_of_none h hd)]; exact h
section
variable {σ : L2.St} {B H : Hp} {K : PySem.W.Frag} {C : Nat} {n m : Str}
theorem exc_made1 {B2 H2 : Hp} (s : Same B2 H2) {x : U} {v : V} (r : Rp B2 x v) {Q : VK} (q : ∀ w B3 H3, Go B2 H2 B3 H3 → Rp B3 (.exc C [(n, x)]) w → Q w H3) {a : Addr} (ha : H2 a = none) :
    spI1 (CTab.ct C) n [.ref a, v] (upd H2 a (exo a (CTab.ct C) none)) (fun v H3 => v = .non ∧ Q (.ref a) H3) (fun _ _ _ => False) := by
  refine ⟨a, v, rfl, upd_same, fun dx h1 h2 => ⟨rfl, ?_⟩⟩
  rw [upd_ne h2] at h1
  rw [upd_mid]
  refine q _ _ _ (go_exc s ha h1 h2) (.exc upd_same (by rw [upd_ne h2, upd_same]) (.cons (r.kp (Kp.of (up_exc (s.free ha) (s.free h1) h2))) .nil))
theorem exc_made2 {B2 H2 : Hp} (s : Same B2 H2) {x y : U} {v u : V} (r : Rp B2 x v) (r' : Rp B2 y u) {Q : VK} (q : ∀ w B3 H3, Go B2 H2 B3 H3 → Rp B3 (.exc C [(m, y), (n, x)]) w → Q w H3) {a : Addr} (ha : H2 a = none) :
    spI2 (CTab.ct C) n m [.ref a, v, u] (upd H2 a (exo a (CTab.ct C) none)) (fun v H3 => v = .non ∧ Q (.ref a) H3) (fun _ _ _ => False) := by
  refine ⟨a, v, u, rfl, upd_same, fun dx h1 h2 => ⟨rfl, ?_⟩⟩
  rw [upd_ne h2] at h1
  have e : upd (upd (upd (upd H2 a (exo a (CTab.ct C) none)) dx (exd dx [(n, v)])) a (exo a (CTab.ct C) (some dx))) dx (exd dx [(m, u), (n, v)]) = upd (upd H2 dx (exd dx [(m, u), (n, v)])) a (exo a (CTab.ct C) (some dx)) := by
    funext c
    by_cases hc : c = dx
    · subst hc; rw [upd_same, upd_ne h2, upd_same]
    · rw [upd_ne hc]
      by_cases h3 : c = a
      · subst h3; rw [upd_same, upd_same]
      · rw [upd_ne h3, upd_ne hc, upd_ne h3, upd_ne h3, upd_ne hc]
  rw [e]
  have k := Kp.of (up_exc (o := exo a (CTab.ct C) (some dx)) (e := exd dx [(m, u), (n, v)]) (s.free ha) (s.free h1) h2)
  exact q _ _ _ (go_exc s ha h1 h2) (.exc upd_same (by rw [upd_ne h2, upd_same]) (.cons (r'.kp k) (.cons (r.kp k) .nil)))
theorem eo_excV1 {ta : TA} {ol : Option (List U)} (h : EvA ta σ B H ol) : EvO (tExV (CTab.ct C) (spI1 (CTab.ct C) n) ta) σ B H (callO (exc1 C n) ol) := fun z e B1 H1 g Q q => by
  obtain ⟨xs, ex, e⟩ := bind_some e
  match xs, e with
  | [x], e =>
    cases e
    refine h _ ex B1 H1 g _ fun vs B2 H2 g2 r2 => ?_
    match vs, r2 with
    | [v], .cons r .nil => exact ⟨show 1 ≤ 1000 by decide, fun a ha => exc_made1 g2.bh r (fun w B3 H3 g3 r3 => q w B3 H3 (g2.trans g3) r3) ha⟩
theorem eo_excV2 {ta : TA} {ol : Option (List U)} (h : EvA ta σ B H ol) : EvO (tExV (CTab.ct C) (spI2 (CTab.ct C) n m) ta) σ B H (callO (exc2 C n m) ol) := fun z e B1 H1 g Q q => by
  obtain ⟨xs, ex, e⟩ := bind_some e
  match xs, e with
  | [x, y], e =>
    cases e
    refine h _ ex B1 H1 g _ fun vs B2 H2 g2 r2 => ?_
    match vs, r2 with
    | [v, u], .cons r (.cons r' .nil) => exact ⟨show 2 ≤ 1000 by decide, fun a ha => exc_made2 g2.bh r r' (fun w B3 H3 g3 r3 => q w B3 H3 (g2.trans g3) r3) ha⟩
theorem eo_excK1 {ta : TA} {ol : Option (List U)} {gV : List V → List V → List V} (hg : ∀ a v, gV [a] [v] = [a, v]) (h : EvA ta σ B H ol) : EvO (tExK (CTab.ct C) 1 (spI1 (CTab.ct C) n) gV ta) σ B H (callO (exc1 C n) ol) := fun z e B1 H1 g Q q => by
  obtain ⟨xs, ex, e⟩ := bind_some e
  match xs, e with
  | [x], e =>
    cases e
    refine h _ ex B1 H1 g _ fun vs B2 H2 g2 r2 => ?_
    match vs, r2 with
    | [v], .cons r .nil => exact ⟨rfl, fun a ha => by rw [hg]; exact exc_made1 g2.bh r (fun w B3 H3 g3 r3 => q w B3 H3 (g2.trans g3) r3) ha⟩
/-- by name, the second one first -/
theorem eo_excK2 {ta : TA} {ol : Option (List U)} {gV : List V → List V → List V} (hg : ∀ a v u, gV [a] [u, v] = [a, v, u]) (h : EvA ta σ B H ol) : EvO (tExK (CTab.ct C) 2 (spI2 (CTab.ct C) n m) gV ta) σ B H (callO (exc2s C n m) ol) := fun z e B1 H1 g Q q => by
  obtain ⟨xs, ex, e⟩ := bind_some e
  match xs, e with
  | [y, x], e =>
    cases e
    refine h _ ex B1 H1 g _ fun vs B2 H2 g2 r2 => ?_
    match vs, r2 with
    | [u, v], .cons r' (.cons r .nil) => exact ⟨rfl, fun a ha => by rw [hg]; exact exc_made2 g2.bh r r' (fun w B3 H3 g3 r3 => q w B3 H3 (g2.trans g3) r3) ha⟩
theorem eo_exc0 : EvO (tEx0 (CTab.ct C)) σ B H (some (.exc C [])) := fun z e B1 H1 g Q q => by
  cases e
  exact fun a ha => q _ _ _ (Go.new g.bh ha) (.exc0 upd_same)
/-! ### fields, classes -/
def excF (N : Nat → Bool) (n : Str) : U → Option U
  | .exc C fs => if N C = true then fs.lookup n else none
  | _ => none
theorem Rpf.lookX {B : Hp} {n : Str} {z : U} : ∀ {fs : List (Str × U)} {es : List (Str × V)}, Rpf B fs es → fs.lookup n = some z → ∃ v, es.lookup n = some v ∧ Rp B z v
  | _, _, .nil, h => by cases h
  | _, _, @Rpf.cons _ _ k x v fs es r t, h => by
    rw [List.lookup_cons] at h ⊢
    cases e : (n == k) with
    | true =>
      simp only [e] at h ⊢
      cases h
      exact ⟨v, rfl, r⟩
    | false =>
      simp only [e] at h ⊢
      exact Rpf.lookX t h
theorem exAt_of {x : U} {C : Nat} {fs : List (Str × U)} {v : V} {H2 : Hp} {B2 : Hp} (s : Same B2 H2) (r : Rp B2 (.exc C fs) v) : ∃ a es, v = .ref a ∧ ExAt H2 a (CTab.ct C) es ∧ Rpf B2 fs es := by
  cases r with
  | exc0 h => exact ⟨_, [], rfl, .inl ⟨s _ _ h, rfl⟩, .nil⟩
  | exc h k r => exact ⟨_, _, rfl, .inr ⟨_, s _ _ h, s _ _ k⟩, r⟩
theorem eo_xg {te : TE} {oa : Option U} {N : Nat → Bool} (hx : ∀ C, N C = true → XfC K (CTab.ct C) ∧ PySem.W.findIn K (.ref (CTab.ct C)) n = some none) (h : EvO te σ B H oa) : EvO (tXg K n te) σ B H (op1 (excF N n) oa) := fun z e B1 H1 g Q q => by
  obtain ⟨x, ex, e⟩ := bind_some e
  refine h x ex B1 H1 g _ fun v B2 H2 g2 r => ?_
  match x, e, r with
  | .exc C fs, e, r =>
    have e : (if N C = true then fs.lookup n else none) = some z := e
    split at e
    · rename_i hC
      obtain ⟨a, es, rfl, ha, rf⟩ := exAt_of (x := .non) g2.bh r
      obtain ⟨v, ev, rv⟩ := rf.lookX e
      exact ⟨a, _, es, v, rfl, (hx C hC).1, (hx C hC).2, ha, ev, q v B2 H2 g2 rv⟩
    · cases e
def isaX (N : Nat → Bool) (tab : Nat → Bool) : U → Option U
  | .exc C _ => if N C = true then some (.bl (tab C)) else none
  | _ => none
theorem eo_isX {te : TE} {oa : Option U} {N : Nat → Bool} {tab : Nat → Bool} {c : V} {cv : Value} (hcv : ∀ u, RelV c u → u = cv) (hx : ∀ C, N C = true → ExcC K (CTab.ct C) ∧ PySem.W.kitOne K (.ref (CTab.ct C)) cv = some (tab C)) (h : EvO te σ B H oa) :
    EvO (tCB (rIsX K) (tCons te (tCons (tC c) tNil))) σ B H (op1 (isaX N tab) oa) := fun z e B1 H1 g Q q => by
  obtain ⟨x, ex, e⟩ := bind_some e
  refine h x ex B1 H1 g _ fun v B2 H2 g2 r => ?_
  match x, e, r with
  | .exc C fs, e, r =>
    have e : (if N C = true then some (U.bl (tab C)) else none) = some z := e
    split at e
    · rename_i hC
      cases e
      obtain ⟨a, es, rfl, ha, rf⟩ := exAt_of (x := .non) g2.bh r
      exact ⟨a, _, es, c, cv, _, rfl, (hx C hC).1, ha, hcv, (hx C hC).2, q _ B2 H2 g2 (.bl _)⟩
    · cases e
end
end Dn
set_option Elab.async false
set_option linter.all false
set_option maxRecDepth 100000
set_option maxHeartbeats 2000000
namespace Dn
open PySem PySem.Spec PyProof.Rows L2 PySem.SeqAt
variable [CTab]
/-! ### list.count of a truth in a list of truths -/
def eqb (k : Bool) (v : Value) : Bool := match v with
  | .bool n => n == k
  | _ => false
theorem bl_at {k : Bool} {A : Around} {s : Shared} : ∀ {us : List Value} {ns : List Bool}, Vals (ns.map V.bl) us → (∀ y ∈ us, EqAt A s y (.bool k) (eqb k y)) ∧ us.countP (eqb k) = ns.count k
  | _, [], .nil => ⟨(fun y hy => by cases hy), rfl⟩
  | _, n :: ns, .cons r t => by
    obtain ⟨i1, i2⟩ := bl_at (k := k) (A := A) (s := s) t
    cases (show _ = Value.bool n from r)
    refine ⟨fun y hy => ?_, ?_⟩
    · rcases List.mem_cons.mp hy with e | e
      · rw [e]
        exact EqAt.bool_bool n k
      · exact i1 y e
    · rw [List.countP_cons, List.count_cons, i2] <;> rfl
def rCntB (K : PySem.W.Frag) : V → List V → Hp → VK → Prop := fun x xs H Q => ∃ (p : Addr) (ns : List Bool) (k : Bool), x = .ref p ∧ xs = [.bl k] ∧ SqL K H p (ns.map V.bl) ∧ Q (.int (ns.count k : Nat)) H
section
variable {X : Cx}
theorem mt_lcountB : MtR X "list.count" (rCntB X.K) := by
  intro pins s σ H x xs v us Q I rx rxs h
  obtain ⟨p, ns, k, rfl, rfl, hs, q⟩ := h
  cases rx
  obtain ⟨u, rfl, ru⟩ := rxs.one
  cases (show u = Value.bool k from ru)
  obtain ⟨its, rv, ⟨⟨cls, dd, data, sl⟩, n, ho, hc, hdn, hd⟩, hlen⟩ := I.list hs
  simp only at hc hd
  subst hc hd
  refine call_meets PySem.F.slot_list_count ⟨_, ho, rfl⟩ PySem.F.entry_list_count (PySem.F.args_list_count_2 _ _)
    (SeqAt.list_countAt p its.toArray n dd sl (.bool k) (eqb k)) ⟨ho, fun y hy => (bl_at rv).1 y (by simpa using hy), ?_⟩
  have ec : its.toArray.toList.countP (eqb k) = ns.count k := (bl_at (A := X.A) (s := s) rv).2
  refine ⟨.int (ns.count k : Nat), H, I.tok _, ⟨s.toks, ?_⟩, q⟩
  show Value.int ((its.toArray.toList.countP (eqb k) : Nat) : Int) s.toks = Value.int ((ns.count k : Nat) : Int) s.toks
  rw [ec]
theorem pe_countB {K : PySem.W.Frag} {o e : Expr} {es : List Expr} {apos cpos : Pos} {to : TE} {t : TA} (hK : X.K = K) (ho : PE X o to) (ha : PA X (e :: es) t) (hbase : attributeBase o "count" X.env (eval o X.env) = eval o X.env := by rfl)
    (hfew : ((backTo cpos (starEach (e :: es) X.env)).all (fun x => !x.1) && (backToKw cpos (keywordEach [] X.env)).all (fun x => x.1.isSome)
      && decide ((e :: es).length + ([] : List Keyword).length + (if ([] : List Keyword).isEmpty then 0 else 1) < 30)) = true := by rfl)
    (hline : (apos.endLine == cpos.line) = true := by rfl) (hs : starEach (e :: es) X.env = (false, eval e X.env) :: starEach es X.env := by rfl) (hplain : (backTo cpos (starEach es X.env)).any (·.1) = false := by rfl) :
    PE X (.Call (.Attribute o "count" apos) (e :: es) [] cpos) (tBM K "list" (rCntB K) to t) := hK ▸ pe_bm PySem.F.plainAttrs_list PySem.F.slot_list_count PySem.F.type_list_count mt_lcountB ho ha hbase hfew hline hs hplain
end
def countB : U → U → Option U
  | .lst xs, .bl y => (bools xs).map fun ss => .int (ss.count y : Nat)
  | _, _ => none
section
variable {K : PySem.W.Frag} {σ : L2.St} {B H : Hp} {ta tb : TE} {oa ob : Option U}
theorem eo_countB (ha : EvO ta σ B H oa) (hb : EvO tb σ B H ob) : EvO (tBM K "list" (rCntB K) ta (tCons tb tNil)) σ B H (op2 countB oa ob) := fun z e B1 H1 g Q q => by
  obtain ⟨x, ex, e⟩ := bind_some e
  obtain ⟨y, ey, e⟩ := bind_some e
  refine ha x ex B1 H1 g _ fun v B2 H2 g2 r2 => ?_
  cases r2 with
  | @lst a xs vs h r =>
    cases y with
    | bl y =>
      obtain ⟨ss, es, e⟩ := map_some (show (bools xs).map _ = some z from e)
      subst e
      have := r.bools es; subst this
      refine ⟨.inl ⟨rfl, _, SqL.of (g2.bh _ _ h)⟩, hb _ ey B2 H2 (g.trans g2) _ fun w B3 H3 g3 r3 => ?_⟩
      cases r3
      exact ⟨a, ss, y, rfl, rfl, SqL.of (g3.bh _ _ (g3.b _ _ h)), q _ B3 H3 (g2.trans g3) (.int _)⟩
    | _ => cases e
  | _ => cases y <;> cases e
end
/-! ### repr, dicts too -/
def keyD : Key → PyData
  | .inl i => .int i
  | .inr x => .str x
mutual
def U.pyd : U → Option PyData
  | .non => some .none
  | .bl b => some (.bool b)
  | .int i => some (.int i)
  | .str z => some (.str z)
  | .tup xs => (U.pyds xs).map PyData.tuple
  | .tpd xs => (U.pyds xs).map PyData.tuple
  | .lst xs => (U.pyds xs).map PyData.list
  | .dic kvs => (U.pydk kvs).map PyData.dict
  | _ => none
def U.pyds : List U → Option (List PyData)
  | [] => some []
  | x :: xs => (U.pyd x).bind fun d => (U.pyds xs).map fun r => d :: r
def U.pydk : List (Key × U) → Option (List (PyData × PyData))
  | [] => some []
  | (k, x) :: xs => (U.pyd x).bind fun d => (U.pydk xs).map fun r => (keyD k, d) :: r
end
section
variable {X : Cx} {pins : List (Addr × Obj)} {σ : L2.St} {H : Hp} {s : Shared}
theorem not_sm (I : Inv X pins σ H s) (sm : SmB X.base) {a : Addr} {o : HO} (h : H a = some o) : a ≠ sysModules := fun z => by
  obtain ⟨ob, hb⟩ := sm
  have := (I.env0.bs _ _ hb).2
  rw [z] at h
  rw [h] at this
  cases this
theorem keys_reads {P : Program} {w : World} {h : Heap} : ∀ {es : List DictEntry} {ws : List (Key × Value)}, Pairs (mixKind P w) es ws → ReadsAll h (es.map (·.key)) (ws.map fun p => keyD p.1) [] ∧ es.map (·.val) = ws.map (·.2)
  | _, _, .nil => ⟨.nil, rfl⟩
  | _, _, @Pairs.cons _ _ _ _ _ e kv es kvs h1 h2 t => by
    obtain ⟨i1, i2⟩ := keys_reads (h := h) t
    obtain ⟨k, v⟩ := kv
    have hk : Reads h e.key (keyD k) [] := by
      rcases keyIs_shape (show keyIs k e.key = true from h1) with ⟨i, u, rfl, q⟩ | ⟨x, u, rfl, q⟩
      · rw [q]; exact Reads.int i u
      · rw [q]; exact Reads.str x u
    refine ⟨.cons hk i1, ?_⟩
    rw [List.map_cons, List.map_cons, i2]
    exact congrArg (· :: _) h2
mutual
theorem Rp.readsD (I : Inv X pins σ H s) (sm : SmB X.base) : ∀ {x : U} {v : V} {d : PyData} {u : Value}, Rp H x v → x.pyd = some d → RelV v u → ∃ as, Reads s.heap u d as ∧ sysModules ∉ as
  | _, _, _, _, .non, e, r => by cases e; cases r; exact ⟨_, Reads.none, by simp⟩
  | _, _, _, _, .bl b, e, r => by cases e; cases r; exact ⟨_, Reads.bool b, by simp⟩
  | _, _, _, _, .int b, e, r => by cases e; obtain ⟨t, rfl⟩ := r; exact ⟨_, Reads.int b t, by simp⟩
  | _, _, _, _, .str b, e, r => by cases e; obtain ⟨t, rfl⟩ := r; exact ⟨_, Reads.str b t, by simp⟩
  | _, _, _, _, @Rp.tup _ _ a xs vs h r0, e, r => by
    obtain ⟨ds, e1, e⟩ := map_some (show (U.pyds xs).map PyData.tuple = _ by simpa [U.pyd] using e)
    subst e
    cases r
    obtain ⟨its, rv, ⟨o, ho, hc, n, hd⟩, _⟩ := I.tuple (SqT.of h)
    obtain ⟨as, h1, h2⟩ := Rps.readsD I sm r0 e1 rv
    exact ⟨as, Reads.tuple ho hc hd h1, h2⟩
  | _, _, _, _, @Rp.tpd _ _ a xs vs ob h _ r0, e, r => by
    obtain ⟨ds, e1, e⟩ := map_some (show (U.pyds xs).map PyData.tuple = _ by simpa [U.pyd] using e)
    subst e
    cases r
    obtain ⟨its, rv, ⟨o, ho, hc, n, hd⟩, _⟩ := I.tuple (show SqT X.K H a vs from .inl (.inr ⟨ob, h⟩))
    obtain ⟨as, h1, h2⟩ := Rps.readsD I sm r0 e1 rv
    exact ⟨as, Reads.tuple ho hc hd h1, h2⟩
  | _, _, _, _, @Rp.lst _ _ a xs vs h r0, e, r => by
    obtain ⟨ds, e1, e⟩ := map_some (show (U.pyds xs).map PyData.list = _ by simpa [U.pyd] using e)
    subst e
    cases r
    obtain ⟨its, rv, ⟨o, n, ho, hc, _, hd⟩, _⟩ := I.list (SqL.of h)
    obtain ⟨as, h1, h2⟩ := Rps.readsD I sm r0 e1 rv
    refine ⟨_, Reads.list ho hc hd h1, fun z => ?_⟩
    rcases List.mem_cons.mp z with z | z
    · exact not_sm I sm h z.symm
    · exact h2 z
  | _, _, _, _, @Rp.dic _ _ a kvs es ob h r0, e, r => by
    obtain ⟨ds, e1, e⟩ := map_some (show (U.pydk kvs).map PyData.dict = _ by simpa [U.pyd] using e)
    subst e
    cases r
    obtain ⟨hs, hgd, hx, ents, ep, ws, hdt, hsz, kv, hm⟩ := I.frzK h
    obtain ⟨o', es', ho', hx', hd', hk', hp', hn'⟩ := hm
    rw [hgd] at ho'
    cases ho'
    rw [hdt] at hd'
    cases hd'
    obtain ⟨k1, k2⟩ := keys_reads (h := s.heap) hp'
    obtain ⟨as, h1, h2, h3⟩ := Rpk.readsD I sm r0 e1 kv
    refine ⟨_, Reads.dict hgd hx.1 hdt (by rw [h3]; exact k1) (by rw [k2]; exact h1), fun z => ?_⟩
    rcases List.mem_cons.mp (show sysModules ∈ a :: ([] ++ as) from z) with z | z
    · exact not_sm I sm h z.symm
    · exact h2 (by simpa using z)
  | _, _, _, _, .frl _ _, e, _ => by simp [U.pyd] at e
  | _, _, _, _, .dit _ _, e, _ => by simp [U.pyd] at e
  | _, _, _, _, .dib _ _ _, e, _ => by simp [U.pyd] at e
  | _, _, _, _, .mt, e, _ => by simp [U.pyd] at e
  | _, _, _, _, .exc0 _, e, _ => by simp [U.pyd] at e
  | _, _, _, _, .exc _ _ _, e, _ => by simp [U.pyd] at e
  | _, _, _, _, .obj _ _ _, e, _ => by simp [U.pyd] at e
theorem Rps.readsD (I : Inv X pins σ H s) (sm : SmB X.base) : ∀ {xs : List U} {vs : List V} {ds : List PyData} {us : List Value}, Rps H xs vs → U.pyds xs = some ds → Vals vs us → ∃ as, ReadsAll s.heap us ds as ∧ sysModules ∉ as
  | _, _, _, _, .nil, e, r => by simp [U.pyds] at e; subst e; cases r; exact ⟨_, .nil, by simp⟩
  | _, _, _, _, @Rps.cons _ _ x v xs vs h t, e, r => by
    obtain ⟨d, e1, e⟩ := bind_some (show (U.pyd x).bind (fun d => (U.pyds xs).map fun r => d :: r) = _ by simpa [U.pyds] using e)
    obtain ⟨ds, e2, e⟩ := map_some e
    subst e
    cases r with
    | cons r1 r2 =>
      obtain ⟨as, a1, a2⟩ := Rp.readsD I sm h e1 r1
      obtain ⟨bs, b1, b2⟩ := Rps.readsD I sm t e2 r2
      exact ⟨_, .cons a1 b1, fun z => (List.mem_append.mp z).elim a2 b2⟩
theorem Rpk.readsD (I : Inv X pins σ H s) (sm : SmB X.base) : ∀ {kvs : List (Key × U)} {es : List (Key × V)} {ds : List (PyData × PyData)} {ws : List (Key × Value)}, Rpk H kvs es → U.pydk kvs = some ds → KV es ws → ∃ as, ReadsAll s.heap (ws.map (·.2)) (ds.map (·.2)) as ∧ sysModules ∉ as ∧ ds.map (·.1) = ws.map fun p => keyD p.1
  | _, _, _, _, .nil, e, r => by simp [U.pydk] at e; subst e; cases r; exact ⟨_, .nil, by simp, rfl⟩
  | _, _, _, _, @Rpk.cons _ _ k x v xs vs h t, e, r => by
    obtain ⟨d, e1, e⟩ := bind_some (show (U.pyd x).bind (fun d => (U.pydk xs).map fun r => (keyD k, d) :: r) = _ by simpa [U.pydk] using e)
    obtain ⟨ds, e2, e⟩ := map_some e
    subst e
    cases r with
    | @cons _ q _ _ r1 r2 =>
      obtain ⟨q1, q2⟩ := q
      obtain ⟨rk, rv⟩ := r1
      obtain ⟨as, a1, a2⟩ := Rp.readsD I sm h e1 rv
      obtain ⟨bs, b1, b2, b3⟩ := Rpk.readsD I sm t e2 r2
      refine ⟨_, .cons a1 b1, fun z => (List.mem_append.mp z).elim a2 b2, ?_⟩
      rw [List.map_cons, List.map_cons, b3]
      exact congrArg (· :: _) (congrArg keyD rk)
end
end
def rReprD (b : Heap) : List V → Hp → VK → Prop := fun xs H Q => ∃ x v d, xs = [v] ∧ SmB b ∧ Rp H x v ∧ x.pyd = some d ∧ d.showable = true ∧ d.depth ≤ 40 ∧ d.shown.length ≤ sizeLine ∧ Q (.str d.shown) H
theorem call_reprD {X : Cx} {b : Heap} (hB : X.base = b) (hg : X.A.guards = some []) (hu : X.A.units + 64 < cLine) : CallR X (.builtin "repr") (rReprD b) := by
  subst hB
  intro pins s σ H xs us Q I rx h
  obtain ⟨x, v, d, rfl, sm, hd, hp, h1, h3, h4, q⟩ := h
  obtain ⟨u, rfl, ru⟩ := vals1 rx
  obtain ⟨as, rd, na⟩ := hd.readsD I sm hp ru
  have fin : ∀ a, u = .ref a → wpAny (model X.prog X.w) X.A (call (.builtin "repr") [u]) (EP X pins σ Q) X.xe s := fun a e => by
    subst e
    exact repr_of_reads' rd h1 (fun _ => na) hg (by omega) (fun b o e => e) (fun h' u tk hk => ⟨.str _, H, I.kept (t' := tk) hk, ⟨_, rfl⟩, q⟩) h4
  cases hd with
  | non => cases hp; cases ru; exact PySem.P.repr_of_none ⟨.str _, H, I.kept (t' := s.toks + 1) (fun b o e => e), ⟨_, rfl⟩, q⟩
  | bl b => cases hp; cases ru; exact PySem.P.repr_of_bool ⟨.str _, H, I.kept (t' := s.toks + 1) (fun b o e => e), ⟨_, rfl⟩, q⟩
  | int i =>
    cases hp
    obtain ⟨t, rfl⟩ := ru
    exact PySem.P.repr_of_int (by simpa [PyData.showable] using h1) ⟨.str _, H, I.kept (t' := s.toks + 1) (fun b o e => e), ⟨_, rfl⟩, q⟩
  | str i =>
    cases hp
    obtain ⟨t, rfl⟩ := ru
    exact PySem.P.repr_of_str ⟨.str _, H, I.kept (t' := s.toks + 1) (fun b o e => e), ⟨_, rfl⟩, q⟩ h4
  | _ => exact fin _ ru
def reprD : U → Option U := fun x => x.pyd.bind fun d => if d.showable = true ∧ d.depth ≤ 40 ∧ d.shown.length ≤ lim then some (.str d.shown) else none
theorem rc_reprD {b : Heap} (sm : SmB b) : RC (rReprD b) (c1 reprD) := rc_one c1_one fun x z e v B H s rx Q q => by
  obtain ⟨d, ed, e⟩ := bind_some (show x.pyd.bind _ = _ from e)
  split at e
  · rename_i h
    cases e
    exact ⟨x, v, d, rfl, sm, rx.in s, ed, h.1, h.2.1, lim_size h.2.2, q _ B H (Go.refl s) (.str _)⟩
  · cases e
end Dn
set_option Elab.async false
set_option linter.all false
set_option maxRecDepth 100000
set_option maxHeartbeats 4000000
namespace K01
open PySem L2 Dn
variable [CTab]
def top (i : Nat) : Stmt := PySem.Challenge.pw_basetrees_k01_constants_and_errors.main.body.getD i (.Pass ⟨0, 0, 0, 0⟩)
def okX : Nat → Bool := fun C => decide (0 ≤ C ∧ C < 20)
def tabX_ArithmeticError : Nat → Bool := fun C => [14, 15, 16, 17, 18, 19].contains C
def tabX_Broken : Nat → Bool := fun C => [17].contains C
def tabX_FullSource : Nat → Bool := fun C => [16].contains C
def tabX_InUse : Nat → Bool := fun C => [18].contains C
def tabX_InvalidChoice : Nat → Bool := fun C => [5].contains C
def tabX_InvalidClaim : Nat → Bool := fun C => [4].contains C
def tabX_InvalidFreed : Nat → Bool := fun C => [13].contains C
def tabX_InvalidIndex : Nat → Bool := fun C => [3].contains C
def tabX_InvalidName : Nat → Bool := fun C => [2].contains C
def tabX_InvalidNumber : Nat → Bool := fun C => [1].contains C
def tabX_InvalidOffers : Nat → Bool := fun C => [12].contains C
def tabX_InvalidSources : Nat → Bool := fun C => [9].contains C
def tabX_InvalidText : Nat → Bool := fun C => [0].contains C
def tabX_InvalidTold : Nat → Bool := fun C => [10].contains C
def tabX_InvalidWeights : Nat → Bool := fun C => [11].contains C
def tabX_NoAnswer : Nat → Bool := fun C => [14, 15, 16, 17, 18, 19].contains C
def tabX_NoChoice : Nat → Bool := fun C => [14].contains C
def tabX_NotAShelf : Nat → Bool := fun C => [8].contains C
def tabX_NotAWeb : Nat → Bool := fun C => [7].contains C
def tabX_NothingToUndo : Nat → Bool := fun C => [19].contains C
def tabX_TooMany : Nat → Bool := fun C => [15].contains C
def tabX_UnknownName : Nat → Bool := fun C => [6].contains C
def tabX_ValueError : Nat → Bool := fun C => [0, 1, 2, 3, 4, 5, 6, 7, 8, 9, 10, 11, 12, 13].contains C
def tabX_WrongValue : Nat → Bool := fun C => [0, 1, 2, 3, 4, 5, 6, 7, 8, 9, 10, 11, 12, 13].contains C
structure Tx (w : World) (K : PySem.W.Frag) (mg : Str → Option Value) (base : Heap) (a : Nat → Addr) (d : Nat → FuncData) : Prop where
  b_len : mg "len" = none
  b_int : mg "int" = none
  b_abs : mg "abs" = none
  b_divmod : mg "divmod" = none
  b_isinstance : mg "isinstance" = none
  b_repr : mg "repr" = none
  b_enumerate : mg "enumerate" = none
  b_ValueError : mg "ValueError" = none
  b_ArithmeticError : mg "ArithmeticError" = none
  b_min : mg "min" = none
  b_max : mg "max" = none
  b_range : mg "range" = none
  b_all : mg "all" = none
  c_MOST_COPIES : ∃ t : Tok, mg "MOST_COPIES" = some (.int 40 t)
  c_MOST_TOLD : ∃ t : Tok, mg "MOST_TOLD" = some (.int 12 t)
  c_MOST_WEIGHT : ∃ t : Tok, mg "MOST_WEIGHT" = some (.int 1000000000000 t)
  c_MOST_WALKED : ∃ t : Tok, mg "MOST_WALKED" = some (.int 2000 t)
  c_MOST_OFFERS : ∃ t : Tok, mg "MOST_OFFERS" = some (.int 8 t)
  c_MOST_FREED : ∃ t : Tok, mg "MOST_FREED" = some (.int 8 t)
  f_law_purse : Fun K "_law_purse" "_law_purse" (top 30) (a 30) (d 30)
  g_law_purse : mg "_law_purse" = some (.ref (a 30))
  bd_law_purse : Binds K (d 30) ["_law_script", "_law_spot"] []
  f_law_draw : Fun K "_law_draw" "_law_draw" (top 31) (a 31) (d 31)
  g_law_draw : mg "_law_draw" = some (.ref (a 31))
  bd_law_draw : Binds K (d 31) ["_law_purse_here", "_law_many"] []
  f_law_thing : Fun K "_law_thing" "_law_thing" (top 32) (a 32) (d 32)
  g_law_thing : mg "_law_thing" = some (.ref (a 32))
  bd_law_thing : Binds K (d 32) ["_law_purse_here"] []
  f_InvalidText___init__ : Fun K "__init__" "InvalidText.__init__" (inClass (top 3) 0) (a 1000) (d 1000)
  bd_InvalidText___init__ : Binds K (d 1000) ["self", "given"] []
  f_InvalidNumber___init__ : Fun K "__init__" "InvalidNumber.__init__" (inClass (top 4) 0) (a 1100) (d 1100)
  bd_InvalidNumber___init__ : Binds K (d 1100) ["self", "given"] []
  f_InvalidName___init__ : Fun K "__init__" "InvalidName.__init__" (inClass (top 5) 0) (a 1200) (d 1200)
  bd_InvalidName___init__ : Binds K (d 1200) ["self", "given"] []
  f_InvalidIndex___init__ : Fun K "__init__" "InvalidIndex.__init__" (inClass (top 6) 0) (a 1300) (d 1300)
  bd_InvalidIndex___init__ : Binds K (d 1300) ["self", "given"] []
  f_InvalidClaim___init__ : Fun K "__init__" "InvalidClaim.__init__" (inClass (top 7) 0) (a 1400) (d 1400)
  bd_InvalidClaim___init__ : Binds K (d 1400) ["self", "given"] []
  f_InvalidChoice___init__ : Fun K "__init__" "InvalidChoice.__init__" (inClass (top 8) 0) (a 1500) (d 1500)
  bd_InvalidChoice___init__ : Binds K (d 1500) ["self", "given"] []
  f_UnknownName___init__ : Fun K "__init__" "UnknownName.__init__" (inClass (top 9) 0) (a 1600) (d 1600)
  bd_UnknownName___init__ : Binds K (d 1600) ["self", "given"] []
  f_NotAWeb___init__ : Fun K "__init__" "NotAWeb.__init__" (inClass (top 10) 0) (a 1700) (d 1700)
  bd_NotAWeb___init__ : Binds K (d 1700) ["self", "given"] []
  f_NotAShelf___init__ : Fun K "__init__" "NotAShelf.__init__" (inClass (top 11) 0) (a 1800) (d 1800)
  bd_NotAShelf___init__ : Binds K (d 1800) ["self", "given"] []
  f_InvalidSources___init__ : Fun K "__init__" "InvalidSources.__init__" (inClass (top 12) 0) (a 1900) (d 1900)
  bd_InvalidSources___init__ : Binds K (d 1900) ["self", "given"] []
  f_InvalidTold___init__ : Fun K "__init__" "InvalidTold.__init__" (inClass (top 13) 0) (a 2000) (d 2000)
  bd_InvalidTold___init__ : Binds K (d 2000) ["self", "index"] []
  f_InvalidWeights___init__ : Fun K "__init__" "InvalidWeights.__init__" (inClass (top 14) 0) (a 2100) (d 2100)
  bd_InvalidWeights___init__ : Binds K (d 2100) ["self", "index"] []
  f_InvalidOffers___init__ : Fun K "__init__" "InvalidOffers.__init__" (inClass (top 15) 0) (a 2200) (d 2200)
  bd_InvalidOffers___init__ : Binds K (d 2200) ["self", "index"] []
  f_InvalidFreed___init__ : Fun K "__init__" "InvalidFreed.__init__" (inClass (top 16) 0) (a 2300) (d 2300)
  bd_InvalidFreed___init__ : Binds K (d 2300) ["self", "index"] []
  f_law_firsts : Fun K "_law_firsts" "_law_firsts" (top 33) (a 33) (d 33)
  g_law_firsts : mg "_law_firsts" = some (.ref (a 33))
  bd_law_firsts : Binds K (d 33) ["_law_x"] []
  f_TooMany___init__ : Fun K "__init__" "TooMany.__init__" (inClass (top 18) 0) (a 2500) (d 2500)
  bd_TooMany___init__ : Binds K (d 2500) ["self", "number"] []
  f_FullSource___init__ : Fun K "__init__" "FullSource.__init__" (inClass (top 19) 0) (a 2600) (d 2600)
  bd_FullSource___init__ : Binds K (d 2600) ["self", "given"] []
  f_Broken___init__ : Fun K "__init__" "Broken.__init__" (inClass (top 20) 0) (a 2700) (d 2700)
  bd_Broken___init__ : Binds K (d 2700) ["self", "index", "told"] []
  f_InUse___init__ : Fun K "__init__" "InUse.__init__" (inClass (top 21) 0) (a 2800) (d 2800)
  bd_InUse___init__ : Binds K (d 2800) ["self", "index"] []
  f_law_seconds : Fun K "_law_seconds" "_law_seconds" (top 34) (a 34) (d 34)
  g_law_seconds : mg "_law_seconds" = some (.ref (a 34))
  bd_law_seconds : Binds K (d 34) ["_law_x"] []
  f_law_flags : Fun K "_law_flags" "_law_flags" (top 35) (a 35) (d 35)
  g_law_flags : mg "_law_flags" = some (.ref (a 35))
  bd_law_flags : Binds K (d 35) ["_law_e"] []
  f_law_right : Fun K "_law_right" "_law_right" (top 36) (a 36) (d 36)
  g_law_right : mg "_law_right" = some (.ref (a 36))
  bd_law_right : Binds K (d 36) ["_law_purse_here"] []
  f_law : Fun K "law" "law" (top 37) (a 37) (d 37)
  g_law : mg "law" = some (.ref (a 37))
  bd_law : Binds K (d 37) ["_law_script"] []
  sm : SmB base
  g_InvalidText : mg "InvalidText" = some (.ref (CTab.ct 0))
  g_InvalidNumber : mg "InvalidNumber" = some (.ref (CTab.ct 1))
  g_InvalidName : mg "InvalidName" = some (.ref (CTab.ct 2))
  g_InvalidIndex : mg "InvalidIndex" = some (.ref (CTab.ct 3))
  g_InvalidClaim : mg "InvalidClaim" = some (.ref (CTab.ct 4))
  g_InvalidChoice : mg "InvalidChoice" = some (.ref (CTab.ct 5))
  g_UnknownName : mg "UnknownName" = some (.ref (CTab.ct 6))
  g_NotAWeb : mg "NotAWeb" = some (.ref (CTab.ct 7))
  g_NotAShelf : mg "NotAShelf" = some (.ref (CTab.ct 8))
  g_InvalidSources : mg "InvalidSources" = some (.ref (CTab.ct 9))
  g_InvalidTold : mg "InvalidTold" = some (.ref (CTab.ct 10))
  g_InvalidWeights : mg "InvalidWeights" = some (.ref (CTab.ct 11))
  g_InvalidOffers : mg "InvalidOffers" = some (.ref (CTab.ct 12))
  g_InvalidFreed : mg "InvalidFreed" = some (.ref (CTab.ct 13))
  g_NoChoice : mg "NoChoice" = some (.ref (CTab.ct 14))
  g_TooMany : mg "TooMany" = some (.ref (CTab.ct 15))
  g_FullSource : mg "FullSource" = some (.ref (CTab.ct 16))
  g_Broken : mg "Broken" = some (.ref (CTab.ct 17))
  g_InUse : mg "InUse" = some (.ref (CTab.ct 18))
  g_NothingToUndo : mg "NothingToUndo" = some (.ref (CTab.ct 19))
  g_WrongValue : mg "WrongValue" = some (.ref (CTab.ct 20))
  g_NoAnswer : mg "NoAnswer" = some (.ref (CTab.ct 21))
  xo_InvalidText : OexG K (CTab.ct 0)
  xi_InvalidText : PySem.W.findIn K (.ref (CTab.ct 0)) "__init__" = some (some (.ref (a 1000)))
  xt_InvalidText : PySem.W.typeIn K (.ref (a 1000)) = some (.type "function")
  xn_InvalidText_given : PySem.W.findIn K (.ref (CTab.ct 0)) "given" = some none
  xo_InvalidNumber : OexG K (CTab.ct 1)
  xi_InvalidNumber : PySem.W.findIn K (.ref (CTab.ct 1)) "__init__" = some (some (.ref (a 1100)))
  xt_InvalidNumber : PySem.W.typeIn K (.ref (a 1100)) = some (.type "function")
  xn_InvalidNumber_given : PySem.W.findIn K (.ref (CTab.ct 1)) "given" = some none
  xo_InvalidName : OexG K (CTab.ct 2)
  xi_InvalidName : PySem.W.findIn K (.ref (CTab.ct 2)) "__init__" = some (some (.ref (a 1200)))
  xt_InvalidName : PySem.W.typeIn K (.ref (a 1200)) = some (.type "function")
  xn_InvalidName_given : PySem.W.findIn K (.ref (CTab.ct 2)) "given" = some none
  xo_InvalidIndex : OexG K (CTab.ct 3)
  xi_InvalidIndex : PySem.W.findIn K (.ref (CTab.ct 3)) "__init__" = some (some (.ref (a 1300)))
  xt_InvalidIndex : PySem.W.typeIn K (.ref (a 1300)) = some (.type "function")
  xn_InvalidIndex_given : PySem.W.findIn K (.ref (CTab.ct 3)) "given" = some none
  xo_InvalidClaim : OexG K (CTab.ct 4)
  xi_InvalidClaim : PySem.W.findIn K (.ref (CTab.ct 4)) "__init__" = some (some (.ref (a 1400)))
  xt_InvalidClaim : PySem.W.typeIn K (.ref (a 1400)) = some (.type "function")
  xn_InvalidClaim_given : PySem.W.findIn K (.ref (CTab.ct 4)) "given" = some none
  xo_InvalidChoice : OexG K (CTab.ct 5)
  xi_InvalidChoice : PySem.W.findIn K (.ref (CTab.ct 5)) "__init__" = some (some (.ref (a 1500)))
  xt_InvalidChoice : PySem.W.typeIn K (.ref (a 1500)) = some (.type "function")
  xn_InvalidChoice_given : PySem.W.findIn K (.ref (CTab.ct 5)) "given" = some none
  xo_UnknownName : OexG K (CTab.ct 6)
  xi_UnknownName : PySem.W.findIn K (.ref (CTab.ct 6)) "__init__" = some (some (.ref (a 1600)))
  xt_UnknownName : PySem.W.typeIn K (.ref (a 1600)) = some (.type "function")
  xn_UnknownName_given : PySem.W.findIn K (.ref (CTab.ct 6)) "given" = some none
  xo_NotAWeb : OexG K (CTab.ct 7)
  xi_NotAWeb : PySem.W.findIn K (.ref (CTab.ct 7)) "__init__" = some (some (.ref (a 1700)))
  xt_NotAWeb : PySem.W.typeIn K (.ref (a 1700)) = some (.type "function")
  xn_NotAWeb_given : PySem.W.findIn K (.ref (CTab.ct 7)) "given" = some none
  xo_NotAShelf : OexG K (CTab.ct 8)
  xi_NotAShelf : PySem.W.findIn K (.ref (CTab.ct 8)) "__init__" = some (some (.ref (a 1800)))
  xt_NotAShelf : PySem.W.typeIn K (.ref (a 1800)) = some (.type "function")
  xn_NotAShelf_given : PySem.W.findIn K (.ref (CTab.ct 8)) "given" = some none
  xo_InvalidSources : OexG K (CTab.ct 9)
  xi_InvalidSources : PySem.W.findIn K (.ref (CTab.ct 9)) "__init__" = some (some (.ref (a 1900)))
  xt_InvalidSources : PySem.W.typeIn K (.ref (a 1900)) = some (.type "function")
  xn_InvalidSources_given : PySem.W.findIn K (.ref (CTab.ct 9)) "given" = some none
  xo_InvalidTold : OexG K (CTab.ct 10)
  xi_InvalidTold : PySem.W.findIn K (.ref (CTab.ct 10)) "__init__" = some (some (.ref (a 2000)))
  xt_InvalidTold : PySem.W.typeIn K (.ref (a 2000)) = some (.type "function")
  xn_InvalidTold_index : PySem.W.findIn K (.ref (CTab.ct 10)) "index" = some none
  xo_InvalidWeights : OexG K (CTab.ct 11)
  xi_InvalidWeights : PySem.W.findIn K (.ref (CTab.ct 11)) "__init__" = some (some (.ref (a 2100)))
  xt_InvalidWeights : PySem.W.typeIn K (.ref (a 2100)) = some (.type "function")
  xn_InvalidWeights_index : PySem.W.findIn K (.ref (CTab.ct 11)) "index" = some none
  xo_InvalidOffers : OexG K (CTab.ct 12)
  xi_InvalidOffers : PySem.W.findIn K (.ref (CTab.ct 12)) "__init__" = some (some (.ref (a 2200)))
  xt_InvalidOffers : PySem.W.typeIn K (.ref (a 2200)) = some (.type "function")
  xn_InvalidOffers_index : PySem.W.findIn K (.ref (CTab.ct 12)) "index" = some none
  xo_InvalidFreed : OexG K (CTab.ct 13)
  xi_InvalidFreed : PySem.W.findIn K (.ref (CTab.ct 13)) "__init__" = some (some (.ref (a 2300)))
  xt_InvalidFreed : PySem.W.typeIn K (.ref (a 2300)) = some (.type "function")
  xn_InvalidFreed_index : PySem.W.findIn K (.ref (CTab.ct 13)) "index" = some none
  x0_NoChoice : Ex0K K (CTab.ct 14)
  xk_NoChoice : PySem.W.keepIn K (.ref (CTab.ct 14)) = true
  xo_TooMany : OexG K (CTab.ct 15)
  xi_TooMany : PySem.W.findIn K (.ref (CTab.ct 15)) "__init__" = some (some (.ref (a 2500)))
  xt_TooMany : PySem.W.typeIn K (.ref (a 2500)) = some (.type "function")
  xn_TooMany_number : PySem.W.findIn K (.ref (CTab.ct 15)) "number" = some none
  xo_FullSource : OexG K (CTab.ct 16)
  xi_FullSource : PySem.W.findIn K (.ref (CTab.ct 16)) "__init__" = some (some (.ref (a 2600)))
  xt_FullSource : PySem.W.typeIn K (.ref (a 2600)) = some (.type "function")
  xn_FullSource_given : PySem.W.findIn K (.ref (CTab.ct 16)) "given" = some none
  xo_Broken : OexG K (CTab.ct 17)
  xi_Broken : PySem.W.findIn K (.ref (CTab.ct 17)) "__init__" = some (some (.ref (a 2700)))
  xt_Broken : PySem.W.typeIn K (.ref (a 2700)) = some (.type "function")
  xn_Broken_index : PySem.W.findIn K (.ref (CTab.ct 17)) "index" = some none
  xn_Broken_told : PySem.W.findIn K (.ref (CTab.ct 17)) "told" = some none
  xo_InUse : OexG K (CTab.ct 18)
  xi_InUse : PySem.W.findIn K (.ref (CTab.ct 18)) "__init__" = some (some (.ref (a 2800)))
  xt_InUse : PySem.W.typeIn K (.ref (a 2800)) = some (.type "function")
  xn_InUse_index : PySem.W.findIn K (.ref (CTab.ct 18)) "index" = some none
  x0_NothingToUndo : Ex0K K (CTab.ct 19)
  xk_NothingToUndo : PySem.W.keepIn K (.ref (CTab.ct 19)) = true
  nf_given : ∀ C, okX C = true → XfC K (CTab.ct C) ∧ PySem.W.findIn K (.ref (CTab.ct C)) "given" = some none
  nf_index : ∀ C, okX C = true → XfC K (CTab.ct C) ∧ PySem.W.findIn K (.ref (CTab.ct C)) "index" = some none
  nf_number : ∀ C, okX C = true → XfC K (CTab.ct C) ∧ PySem.W.findIn K (.ref (CTab.ct C)) "number" = some none
  nf_told : ∀ C, okX C = true → XfC K (CTab.ct C) ∧ PySem.W.findIn K (.ref (CTab.ct C)) "told" = some none
  kt_ArithmeticError : ∀ C, okX C = true → ExcC K (CTab.ct C) ∧ PySem.W.kitOne K (.ref (CTab.ct C)) (.type "ArithmeticError") = some (tabX_ArithmeticError C)
  kt_Broken : ∀ C, okX C = true → ExcC K (CTab.ct C) ∧ PySem.W.kitOne K (.ref (CTab.ct C)) (.ref (CTab.ct 17)) = some (tabX_Broken C)
  kt_FullSource : ∀ C, okX C = true → ExcC K (CTab.ct C) ∧ PySem.W.kitOne K (.ref (CTab.ct C)) (.ref (CTab.ct 16)) = some (tabX_FullSource C)
  kt_InUse : ∀ C, okX C = true → ExcC K (CTab.ct C) ∧ PySem.W.kitOne K (.ref (CTab.ct C)) (.ref (CTab.ct 18)) = some (tabX_InUse C)
  kt_InvalidChoice : ∀ C, okX C = true → ExcC K (CTab.ct C) ∧ PySem.W.kitOne K (.ref (CTab.ct C)) (.ref (CTab.ct 5)) = some (tabX_InvalidChoice C)
  kt_InvalidClaim : ∀ C, okX C = true → ExcC K (CTab.ct C) ∧ PySem.W.kitOne K (.ref (CTab.ct C)) (.ref (CTab.ct 4)) = some (tabX_InvalidClaim C)
  kt_InvalidFreed : ∀ C, okX C = true → ExcC K (CTab.ct C) ∧ PySem.W.kitOne K (.ref (CTab.ct C)) (.ref (CTab.ct 13)) = some (tabX_InvalidFreed C)
  kt_InvalidIndex : ∀ C, okX C = true → ExcC K (CTab.ct C) ∧ PySem.W.kitOne K (.ref (CTab.ct C)) (.ref (CTab.ct 3)) = some (tabX_InvalidIndex C)
  kt_InvalidName : ∀ C, okX C = true → ExcC K (CTab.ct C) ∧ PySem.W.kitOne K (.ref (CTab.ct C)) (.ref (CTab.ct 2)) = some (tabX_InvalidName C)
  kt_InvalidNumber : ∀ C, okX C = true → ExcC K (CTab.ct C) ∧ PySem.W.kitOne K (.ref (CTab.ct C)) (.ref (CTab.ct 1)) = some (tabX_InvalidNumber C)
  kt_InvalidOffers : ∀ C, okX C = true → ExcC K (CTab.ct C) ∧ PySem.W.kitOne K (.ref (CTab.ct C)) (.ref (CTab.ct 12)) = some (tabX_InvalidOffers C)
  kt_InvalidSources : ∀ C, okX C = true → ExcC K (CTab.ct C) ∧ PySem.W.kitOne K (.ref (CTab.ct C)) (.ref (CTab.ct 9)) = some (tabX_InvalidSources C)
  kt_InvalidText : ∀ C, okX C = true → ExcC K (CTab.ct C) ∧ PySem.W.kitOne K (.ref (CTab.ct C)) (.ref (CTab.ct 0)) = some (tabX_InvalidText C)
  kt_InvalidTold : ∀ C, okX C = true → ExcC K (CTab.ct C) ∧ PySem.W.kitOne K (.ref (CTab.ct C)) (.ref (CTab.ct 10)) = some (tabX_InvalidTold C)
  kt_InvalidWeights : ∀ C, okX C = true → ExcC K (CTab.ct C) ∧ PySem.W.kitOne K (.ref (CTab.ct C)) (.ref (CTab.ct 11)) = some (tabX_InvalidWeights C)
  kt_NoAnswer : ∀ C, okX C = true → ExcC K (CTab.ct C) ∧ PySem.W.kitOne K (.ref (CTab.ct C)) (.ref (CTab.ct 21)) = some (tabX_NoAnswer C)
  kt_NoChoice : ∀ C, okX C = true → ExcC K (CTab.ct C) ∧ PySem.W.kitOne K (.ref (CTab.ct C)) (.ref (CTab.ct 14)) = some (tabX_NoChoice C)
  kt_NotAShelf : ∀ C, okX C = true → ExcC K (CTab.ct C) ∧ PySem.W.kitOne K (.ref (CTab.ct C)) (.ref (CTab.ct 8)) = some (tabX_NotAShelf C)
  kt_NotAWeb : ∀ C, okX C = true → ExcC K (CTab.ct C) ∧ PySem.W.kitOne K (.ref (CTab.ct C)) (.ref (CTab.ct 7)) = some (tabX_NotAWeb C)
  kt_NothingToUndo : ∀ C, okX C = true → ExcC K (CTab.ct C) ∧ PySem.W.kitOne K (.ref (CTab.ct C)) (.ref (CTab.ct 19)) = some (tabX_NothingToUndo C)
  kt_TooMany : ∀ C, okX C = true → ExcC K (CTab.ct C) ∧ PySem.W.kitOne K (.ref (CTab.ct C)) (.ref (CTab.ct 15)) = some (tabX_TooMany C)
  kt_UnknownName : ∀ C, okX C = true → ExcC K (CTab.ct C) ∧ PySem.W.kitOne K (.ref (CTab.ct C)) (.ref (CTab.ct 6)) = some (tabX_UnknownName C)
  kt_ValueError : ∀ C, okX C = true → ExcC K (CTab.ct C) ∧ PySem.W.kitOne K (.ref (CTab.ct C)) (.type "ValueError") = some (tabX_ValueError C)
  kt_WrongValue : ∀ C, okX C = true → ExcC K (CTab.ct C) ∧ PySem.W.kitOne K (.ref (CTab.ct C)) (.ref (CTab.ct 20)) = some (tabX_WrongValue C)
theorem bb_len : bootBuiltins "len" = some (.builtin "len") := by decide +kernel
theorem bb_int : bootBuiltins "int" = some (.type "int") := by decide +kernel
theorem bb_abs : bootBuiltins "abs" = some (.builtin "abs") := by decide +kernel
theorem bb_divmod : bootBuiltins "divmod" = some (.builtin "divmod") := by decide +kernel
theorem bb_isinstance : bootBuiltins "isinstance" = some (.builtin "isinstance") := by decide +kernel
theorem bb_repr : bootBuiltins "repr" = some (.builtin "repr") := by decide +kernel
theorem bb_enumerate : bootBuiltins "enumerate" = some (.type "enumerate") := by decide +kernel
theorem bb_ValueError : bootBuiltins "ValueError" = some (.type "ValueError") := by decide +kernel
theorem bb_ArithmeticError : bootBuiltins "ArithmeticError" = some (.type "ArithmeticError") := by decide +kernel
theorem bb_min : bootBuiltins "min" = some (.builtin "min") := by decide +kernel
theorem bb_max : bootBuiltins "max" = some (.builtin "max") := by decide +kernel
theorem bb_range : bootBuiltins "range" = some (.type "range") := by decide +kernel
theorem bb_all : bootBuiltins "all" = some (.builtin "all") := by decide +kernel
section
variable {P : Program} {w : World} {K : PySem.W.Frag} {mg : Str → Option Value} {base : Heap} {a : Nat → Addr} {d : Nat → FuncData}
abbrev s_InvalidText___init__ : Stmt := inClass (top 3) 0
theorem sc_InvalidText___init__ : FnScope ["self", "given"] ["self", "given"] (defScope s_InvalidText___init__) := ⟨rfl, rfl, rfl, by decide +kernel, rfl, by decide +kernel, by decide +kernel⟩
theorem ok_InvalidText___init__ (T : Tx w K mg base a d) : FnOk P w K mg base CX0 1 (a 1000) (d 1000) ["self", "given"] (spI1 (CTab.ct 0) "given") :=
  ok_init1 T.f_InvalidText___init__ sc_InvalidText___init__ T.xo_InvalidText T.xn_InvalidText_given rfl (by decide) (by decide) (Or.inl rfl) (Or.inl rfl) (fun _ => rfl)
abbrev s_InvalidNumber___init__ : Stmt := inClass (top 4) 0
theorem sc_InvalidNumber___init__ : FnScope ["self", "given"] ["self", "given"] (defScope s_InvalidNumber___init__) := ⟨rfl, rfl, rfl, by decide +kernel, rfl, by decide +kernel, by decide +kernel⟩
theorem ok_InvalidNumber___init__ (T : Tx w K mg base a d) : FnOk P w K mg base CX0 1 (a 1100) (d 1100) ["self", "given"] (spI1 (CTab.ct 1) "given") :=
  ok_init1 T.f_InvalidNumber___init__ sc_InvalidNumber___init__ T.xo_InvalidNumber T.xn_InvalidNumber_given rfl (by decide) (by decide) (Or.inl rfl) (Or.inl rfl) (fun _ => rfl)
abbrev s_InvalidName___init__ : Stmt := inClass (top 5) 0
theorem sc_InvalidName___init__ : FnScope ["self", "given"] ["self", "given"] (defScope s_InvalidName___init__) := ⟨rfl, rfl, rfl, by decide +kernel, rfl, by decide +kernel, by decide +kernel⟩
theorem ok_InvalidName___init__ (T : Tx w K mg base a d) : FnOk P w K mg base CX0 1 (a 1200) (d 1200) ["self", "given"] (spI1 (CTab.ct 2) "given") :=
  ok_init1 T.f_InvalidName___init__ sc_InvalidName___init__ T.xo_InvalidName T.xn_InvalidName_given rfl (by decide) (by decide) (Or.inl rfl) (Or.inl rfl) (fun _ => rfl)
abbrev s_InvalidIndex___init__ : Stmt := inClass (top 6) 0
theorem sc_InvalidIndex___init__ : FnScope ["self", "given"] ["self", "given"] (defScope s_InvalidIndex___init__) := ⟨rfl, rfl, rfl, by decide +kernel, rfl, by decide +kernel, by decide +kernel⟩
theorem ok_InvalidIndex___init__ (T : Tx w K mg base a d) : FnOk P w K mg base CX0 1 (a 1300) (d 1300) ["self", "given"] (spI1 (CTab.ct 3) "given") :=
  ok_init1 T.f_InvalidIndex___init__ sc_InvalidIndex___init__ T.xo_InvalidIndex T.xn_InvalidIndex_given rfl (by decide) (by decide) (Or.inl rfl) (Or.inl rfl) (fun _ => rfl)
abbrev s_InvalidClaim___init__ : Stmt := inClass (top 7) 0
theorem sc_InvalidClaim___init__ : FnScope ["self", "given"] ["self", "given"] (defScope s_InvalidClaim___init__) := ⟨rfl, rfl, rfl, by decide +kernel, rfl, by decide +kernel, by decide +kernel⟩
theorem ok_InvalidClaim___init__ (T : Tx w K mg base a d) : FnOk P w K mg base CX0 1 (a 1400) (d 1400) ["self", "given"] (spI1 (CTab.ct 4) "given") :=
  ok_init1 T.f_InvalidClaim___init__ sc_InvalidClaim___init__ T.xo_InvalidClaim T.xn_InvalidClaim_given rfl (by decide) (by decide) (Or.inl rfl) (Or.inl rfl) (fun _ => rfl)
abbrev s_InvalidChoice___init__ : Stmt := inClass (top 8) 0
theorem sc_InvalidChoice___init__ : FnScope ["self", "given"] ["self", "given"] (defScope s_InvalidChoice___init__) := ⟨rfl, rfl, rfl, by decide +kernel, rfl, by decide +kernel, by decide +kernel⟩
theorem ok_InvalidChoice___init__ (T : Tx w K mg base a d) : FnOk P w K mg base CX0 1 (a 1500) (d 1500) ["self", "given"] (spI1 (CTab.ct 5) "given") :=
  ok_init1 T.f_InvalidChoice___init__ sc_InvalidChoice___init__ T.xo_InvalidChoice T.xn_InvalidChoice_given rfl (by decide) (by decide) (Or.inl rfl) (Or.inl rfl) (fun _ => rfl)
abbrev s_UnknownName___init__ : Stmt := inClass (top 9) 0
theorem sc_UnknownName___init__ : FnScope ["self", "given"] ["self", "given"] (defScope s_UnknownName___init__) := ⟨rfl, rfl, rfl, by decide +kernel, rfl, by decide +kernel, by decide +kernel⟩
theorem ok_UnknownName___init__ (T : Tx w K mg base a d) : FnOk P w K mg base CX0 1 (a 1600) (d 1600) ["self", "given"] (spI1 (CTab.ct 6) "given") :=
  ok_init1 T.f_UnknownName___init__ sc_UnknownName___init__ T.xo_UnknownName T.xn_UnknownName_given rfl (by decide) (by decide) (Or.inl rfl) (Or.inl rfl) (fun _ => rfl)
abbrev s_NotAWeb___init__ : Stmt := inClass (top 10) 0
theorem sc_NotAWeb___init__ : FnScope ["self", "given"] ["self", "given"] (defScope s_NotAWeb___init__) := ⟨rfl, rfl, rfl, by decide +kernel, rfl, by decide +kernel, by decide +kernel⟩
theorem ok_NotAWeb___init__ (T : Tx w K mg base a d) : FnOk P w K mg base CX0 1 (a 1700) (d 1700) ["self", "given"] (spI1 (CTab.ct 7) "given") :=
  ok_init1 T.f_NotAWeb___init__ sc_NotAWeb___init__ T.xo_NotAWeb T.xn_NotAWeb_given rfl (by decide) (by decide) (Or.inl rfl) (Or.inl rfl) (fun _ => rfl)
abbrev s_NotAShelf___init__ : Stmt := inClass (top 11) 0
theorem sc_NotAShelf___init__ : FnScope ["self", "given"] ["self", "given"] (defScope s_NotAShelf___init__) := ⟨rfl, rfl, rfl, by decide +kernel, rfl, by decide +kernel, by decide +kernel⟩
theorem ok_NotAShelf___init__ (T : Tx w K mg base a d) : FnOk P w K mg base CX0 1 (a 1800) (d 1800) ["self", "given"] (spI1 (CTab.ct 8) "given") :=
  ok_init1 T.f_NotAShelf___init__ sc_NotAShelf___init__ T.xo_NotAShelf T.xn_NotAShelf_given rfl (by decide) (by decide) (Or.inl rfl) (Or.inl rfl) (fun _ => rfl)
abbrev s_InvalidSources___init__ : Stmt := inClass (top 12) 0
theorem sc_InvalidSources___init__ : FnScope ["self", "given"] ["self", "given"] (defScope s_InvalidSources___init__) := ⟨rfl, rfl, rfl, by decide +kernel, rfl, by decide +kernel, by decide +kernel⟩
theorem ok_InvalidSources___init__ (T : Tx w K mg base a d) : FnOk P w K mg base CX0 1 (a 1900) (d 1900) ["self", "given"] (spI1 (CTab.ct 9) "given") :=
  ok_init1 T.f_InvalidSources___init__ sc_InvalidSources___init__ T.xo_InvalidSources T.xn_InvalidSources_given rfl (by decide) (by decide) (Or.inl rfl) (Or.inl rfl) (fun _ => rfl)
abbrev s_InvalidTold___init__ : Stmt := inClass (top 13) 0
theorem sc_InvalidTold___init__ : FnScope ["self", "index"] ["self", "index"] (defScope s_InvalidTold___init__) := ⟨rfl, rfl, rfl, by decide +kernel, rfl, by decide +kernel, by decide +kernel⟩
theorem ok_InvalidTold___init__ (T : Tx w K mg base a d) : FnOk P w K mg base CX0 1 (a 2000) (d 2000) ["self", "index"] (spI1 (CTab.ct 10) "index") :=
  ok_init1 T.f_InvalidTold___init__ sc_InvalidTold___init__ T.xo_InvalidTold T.xn_InvalidTold_index rfl (by decide) (by decide) (Or.inl rfl) (Or.inl rfl) (fun _ => rfl)
abbrev s_InvalidWeights___init__ : Stmt := inClass (top 14) 0
theorem sc_InvalidWeights___init__ : FnScope ["self", "index"] ["self", "index"] (defScope s_InvalidWeights___init__) := ⟨rfl, rfl, rfl, by decide +kernel, rfl, by decide +kernel, by decide +kernel⟩
theorem ok_InvalidWeights___init__ (T : Tx w K mg base a d) : FnOk P w K mg base CX0 1 (a 2100) (d 2100) ["self", "index"] (spI1 (CTab.ct 11) "index") :=
  ok_init1 T.f_InvalidWeights___init__ sc_InvalidWeights___init__ T.xo_InvalidWeights T.xn_InvalidWeights_index rfl (by decide) (by decide) (Or.inl rfl) (Or.inl rfl) (fun _ => rfl)
abbrev s_InvalidOffers___init__ : Stmt := inClass (top 15) 0
theorem sc_InvalidOffers___init__ : FnScope ["self", "index"] ["self", "index"] (defScope s_InvalidOffers___init__) := ⟨rfl, rfl, rfl, by decide +kernel, rfl, by decide +kernel, by decide +kernel⟩
theorem ok_InvalidOffers___init__ (T : Tx w K mg base a d) : FnOk P w K mg base CX0 1 (a 2200) (d 2200) ["self", "index"] (spI1 (CTab.ct 12) "index") :=
  ok_init1 T.f_InvalidOffers___init__ sc_InvalidOffers___init__ T.xo_InvalidOffers T.xn_InvalidOffers_index rfl (by decide) (by decide) (Or.inl rfl) (Or.inl rfl) (fun _ => rfl)
abbrev s_InvalidFreed___init__ : Stmt := inClass (top 16) 0
theorem sc_InvalidFreed___init__ : FnScope ["self", "index"] ["self", "index"] (defScope s_InvalidFreed___init__) := ⟨rfl, rfl, rfl, by decide +kernel, rfl, by decide +kernel, by decide +kernel⟩
theorem ok_InvalidFreed___init__ (T : Tx w K mg base a d) : FnOk P w K mg base CX0 1 (a 2300) (d 2300) ["self", "index"] (spI1 (CTab.ct 13) "index") :=
  ok_init1 T.f_InvalidFreed___init__ sc_InvalidFreed___init__ T.xo_InvalidFreed T.xn_InvalidFreed_index rfl (by decide) (by decide) (Or.inl rfl) (Or.inl rfl) (fun _ => rfl)
abbrev s_TooMany___init__ : Stmt := inClass (top 18) 0
theorem sc_TooMany___init__ : FnScope ["self", "number"] ["self", "number"] (defScope s_TooMany___init__) := ⟨rfl, rfl, rfl, by decide +kernel, rfl, by decide +kernel, by decide +kernel⟩
theorem ok_TooMany___init__ (T : Tx w K mg base a d) : FnOk P w K mg base CX0 1 (a 2500) (d 2500) ["self", "number"] (spI1 (CTab.ct 15) "number") :=
  ok_init1 T.f_TooMany___init__ sc_TooMany___init__ T.xo_TooMany T.xn_TooMany_number rfl (by decide) (by decide) (Or.inl rfl) (Or.inl rfl) (fun _ => rfl)
abbrev s_FullSource___init__ : Stmt := inClass (top 19) 0
theorem sc_FullSource___init__ : FnScope ["self", "given"] ["self", "given"] (defScope s_FullSource___init__) := ⟨rfl, rfl, rfl, by decide +kernel, rfl, by decide +kernel, by decide +kernel⟩
theorem ok_FullSource___init__ (T : Tx w K mg base a d) : FnOk P w K mg base CX0 1 (a 2600) (d 2600) ["self", "given"] (spI1 (CTab.ct 16) "given") :=
  ok_init1 T.f_FullSource___init__ sc_FullSource___init__ T.xo_FullSource T.xn_FullSource_given rfl (by decide) (by decide) (Or.inl rfl) (Or.inl rfl) (fun _ => rfl)
abbrev s_Broken___init__ : Stmt := inClass (top 20) 0
theorem sc_Broken___init__ : FnScope ["self", "index", "told"] ["self", "index", "told"] (defScope s_Broken___init__) := ⟨rfl, rfl, rfl, by decide +kernel, rfl, by decide +kernel, by decide +kernel⟩
theorem ok_Broken___init__ (T : Tx w K mg base a d) : FnOk P w K mg base CX0 1 (a 2700) (d 2700) ["self", "index", "told"] (spI2 (CTab.ct 17) "index" "told") :=
  ok_init2 T.f_Broken___init__ sc_Broken___init__ T.xo_Broken T.xn_Broken_index T.xn_Broken_told rfl (by decide) (by decide) (by decide) (by decide) (Or.inl rfl) (Or.inl rfl) (Or.inl rfl) (fun _ => rfl) (fun _ => rfl)
abbrev s_InUse___init__ : Stmt := inClass (top 21) 0
theorem sc_InUse___init__ : FnScope ["self", "index"] ["self", "index"] (defScope s_InUse___init__) := ⟨rfl, rfl, rfl, by decide +kernel, rfl, by decide +kernel, by decide +kernel⟩
theorem ok_InUse___init__ (T : Tx w K mg base a d) : FnOk P w K mg base CX0 1 (a 2800) (d 2800) ["self", "index"] (spI1 (CTab.ct 18) "index") :=
  ok_init1 T.f_InUse___init__ sc_InUse___init__ T.xo_InUse T.xn_InUse_index rfl (by decide) (by decide) (Or.inl rfl) (Or.inl rfl) (fun _ => rfl)
/-! _law_purse -/
abbrev s_law_purse : Stmt := top 30
abbrev N_law_purse : List Str := ["_law_script", "_law_spot", "_law_cell", "_law_seed", "_law_one"]
def m_law_purse_l1 (x1 : U) (kL19 : U → SM U) : List U → U → SM U
  | [], x68 => kL19 x68
  | u39 :: l40, x51 => (bindS (pureS (op2 modV (callO (c1 intV) (consO (op2 addV (op2 addV (op2 mulV (some x51) (some (U.int 40692))) (op2 modV (callO (c1 intV) (consO (some u39) (some []))) (some (U.int 2147483647)))) (some (U.int 101))) (some []))) (some (U.int 2147483647)))) fun x56 => (m_law_purse_l1 x1 kL19 l40 (x56)))
theorem sc_law_purse : FnScope N_law_purse ["_law_script", "_law_spot"] (defScope s_law_purse) := ⟨rfl, rfl, rfl, by decide +kernel, rfl, by decide +kernel, by decide +kernel⟩
def m_law_purseS (p0 : U) (p1 : U) : SM U := (bindS (pureS (ifO (testO (op2 ltV (some p1) (callO lenV (consO (some p0) (some []))))) (op2 getV (some p0) (some p1)) (op2 mulV (some (U.int 6373)) (op2 addV (some p1) (some (U.int 5)))))) fun x1 => (bindS (pureS (op2 addV (some (U.int 941)) (some p1))) fun x10 => (withK (fun x68 => (nlstS (pureS (consO (ifO (testO (op2 geV (callO (c1 absU) (consO (some x1) (some []))) (op2 powV (some (U.int 10)) (some (U.int 18))))) (callO (c1 absU) (consO (some x1) (some []))) (some (U.int 0))) (consO (some x68) (some [])))))) fun kL19 => (bindS (pureS (iterO U.iter (op2 addV (slO (some p0) (some none) (ptO (some (U.int 5)))) (lstO (consO (some x1) (some [])))))) fun xs22 => m_law_purse_l1 x1 kL19 xs22 (x10)))))
def m_law_purse (p0 : U) (p1 : U) : Option U := runS (m_law_purseS p0 p1)
theorem ok_law_purse (T : Tx w K mg base a d) : FnOk P w K mg base CX0 1 (a 30) (d 30) ["_law_script", "_law_spot"] (spN (a2 m_law_purse)) := by
  refine T.f_law_purse.ok sc_law_purse (fun vs H Q E h => ?_) (fun cdv A outer s H vs Q E hr h => ?_)
  · obtain ⟨B, p0, p1, vp0, vp1, r, rfl, _⟩ := sn2 h
    rfl
  · obtain ⟨B, p0, p1, vp0, vp1, r, rfl, sB, rp0, rp1, hM, k⟩ := sn2 h
    have nd := sc_law_purse.nd
    obtain ⟨R, hM2, rfl⟩ := runS_some hM
    clear hM
    have k := fun p B2 H2 ps2 (W : Wh (bsU B H) B2 H2 ps2 R.2) n b o => k p B2 H2 W.pure n b o
    refine ⟨_, (pss_cons (ps_set (i := 2) nd rfl (Or.inl rfl) (pe_ifExp (pt_cmpR op_lt (pv 1) (pe_callB (call_lenK (K := K) rfl) (by rfl) T.b_len bb_len (pa_cons (pv 0) pa_nil)) (nomark _)) (pe_ix (ix_anyK (K := K) rfl hr.units) (pv 0) (pv 1) (fun _ _ => rfl)) (pe_op op_mulU pe_int (pe_op (op_addK (K := K) rfl) (pv 1) pe_int)))) (pss_cons (ps_set (i := 3) nd rfl (Or.inl rfl) (pe_op (op_addK (K := K) rfl) pe_int (pv 1))) (pss_cons (ps_for PassesOwn.never rfl (pi_anyK (K := K) rfl (pe_op (op_addK (K := K) rfl) (pe_slice (sl_anyK (K := K) rfl) (pv 0) po_none (po_some pe_int)) (pe_lst (pa_cons (pv 2) pa_nil)))) (pg_name (i := 4) nd rfl (Or.inl rfl)) (pss_cons (ps_set (i := 3) nd rfl (Or.inl rfl) (pe_op op_mod (pe_callTy call_int1 (by rfl) T.b_int bb_int (pa_cons (pe_op (op_addK (K := K) rfl) (pe_op (op_addK (K := K) rfl) (pe_op op_mulU (pv 3) pe_int) (pe_op op_mod (pe_callTy call_int1 (by rfl) T.b_int bb_int (pa_cons (pv 4) pa_nil)) pe_int)) pe_int) pa_nil)) pe_int)) pss_nil)) (pss_cons (ps_ret (pe_lst (pa_cons (pe_ifExp (pt_cmpR op_ge (pe_callB call_abs (by rfl) T.b_abs bb_abs (pa_cons (pv 2) pa_nil)) (pe_op op_pow pe_int pe_int) (nomark _)) (pe_callB call_abs (by rfl) T.b_abs bb_abs (pa_cons (pv 2) pa_nil)) pe_int) (pa_cons (pv 3) pa_nil)))) pss_nil)))), ?_⟩
    exact (q_asgS (wh_pure sB) (es_of (H := H) (eo_if (et_test (eo_op2 rv_lt (eo_var rfl rp1) (eo_cb' rc_len (ea_cons (eo_var rfl rp0) ea_nil)))) (eo_op2 rv_get (eo_var rfl rp0) (eo_var rfl rp1)) (eo_op2 rv_mul eo_int (eo_op2 rv_add (eo_var rfl rp1) eo_int)))) hM2 fun x1 v2 B3 H4 us7 W8 s9 r6 h5 => (q_asgS W8 (es_of (H := H) (eo_op2 rv_add eo_int (eo_var rfl (rp1.sm s9)))) h5 fun x10 v11 B12 H13 us16 W17 s18 r15 h14 => (q_withS h14 fun kL19 ekL20 h21 => q_forS W17 (eis_of (H := H) (ei_any (eo_op2 rv_add (eo_slice (eo_var rfl ((rp0.sm s9).sm s18)) ep_no (ep_of eo_int)) (eo_lst (ea_cons (eo_var rfl (r6.sm s18)) ea_nil))))) h21 fun xs22 B23 H24 us26 W27 s28 h25 => ⟨fun l29 sg30 B31 H32 => ∃ (o33 : Option V) (o34 : Option V) (x35 : U) (v36 : V) (o37 : Option V) (us38 : List U), sg30 = [o33, o34, some v2, some v36, o37] ∧ Same B23 B31 ∧ Rp B31 x35 v36 ∧ Wh (bsU B H) B31 H32 [] us38 ∧ m_law_purse_l1 x1 kL19 l29 x35 us38 = some R, ⟨_, _, x10, _, _, us26, rfl, Same.refl _, (r15.sm s28), W27, h25⟩, fun _ _ _ _ ⟨_, _, _, _, _, _, _, sX, _, WX, _⟩ => ⟨sX, WX.s⟩, fun u39 l40 v41 sg77 B42 H43 B44 H45 hR g46 r47 => (by obtain ⟨_, _, x51, v52, _, us54, rfl, s49, r53, W55, h50⟩ := hR; exact (q_asgS (W55.go g46) (es_of (H := H) (eo_op2 rv_mod (eo_cb' rc_int (ea_cons (eo_op2 rv_add (eo_op2 rv_add (eo_op2 rv_mul (eo_var rfl (r53.up g46)) eo_int) (eo_op2 rv_mod (eo_cb' rc_int (ea_cons (eo_var rfl r47) ea_nil)) eo_int)) eo_int) ea_nil)) eo_int)) h50 fun x56 v57 B58 H59 us62 W63 s64 r61 h60 => ⟨_, _, _, x56, _, _, _, rfl, ((s49.trans g46.b).trans s64), r61, W63, h60⟩)), fun sg73 B74 H75 hR => (by obtain ⟨_, _, x68, v69, _, us71, rfl, s66, r70, W72, h67⟩ := hR; have h76 : kL19 x68 us71 = some R := h67; subst ekL20; exact (q_retN W72 (en_lst (eas_of (H := H) (ea_cons (eo_if (et_test (eo_op2 rv_ge (eo_cb' rc_abs (ea_cons (eo_var rfl (((r6.sm s18).sm s28).sm s66)) ea_nil)) (eo_op2 rv_pow eo_int eo_int))) (eo_cb' rc_abs (ea_cons (eo_var rfl (((r6.sm s18).sm s28).sm s66)) ea_nil)) eo_int) (ea_cons (eo_var rfl r70) ea_nil)))) h76 k))⟩)))
/-! _law_draw -/
abbrev s_law_draw : Stmt := top 31
abbrev N_law_draw : List Str := ["_law_purse_here", "_law_many", "_law_digit"]
theorem sc_law_draw : FnScope N_law_draw ["_law_purse_here", "_law_many"] (defScope s_law_draw) := ⟨rfl, rfl, rfl, by decide +kernel, rfl, by decide +kernel, by decide +kernel⟩
def m_law_draw (p1 : U) : SM U := (ifS (testS (opS gtV (lockO 0 fun u1 => (op2 getV (some u1) (some (U.int 0)))) (pureS (some (U.int 0))))) (bindS (callS divmodU (consS (lockO 0 fun u16 => (op2 getV (some u16) (some (U.int 0)))) (consS (pureS (some p1)) (pureS (some []))))) fun u => unpS u fun x28 y19 => bindS (pureS (some (U.int 0))) fun k29 => bindS (setLS 0 k29 x28) fun _ => (pureS (some y19))) (bindS (opS modV (callS (c1 intV) (consS (opS addV (opS mulV (lockO 0 fun u30 => (op2 getV (some u30) (some (U.int 1)))) (pureS (some (U.int 45991)))) (pureS (some (U.int 40503)))) (pureS (some [])))) (pureS (some (U.int 2147483647)))) fun y39 => bindS (pureS (some (U.int 1))) fun k40 => bindS (setLS 0 k40 y39) fun _ => (opS modV (callS (c1 intV) (consS (opS fdivV (lockO 0 fun u41 => (op2 getV (some u41) (some (U.int 1)))) (pureS (some (U.int 1024)))) (pureS (some [])))) (pureS (some p1)))))
theorem ok_law_draw (T : Tx w K mg base a d) : FnOk P w K mg base CX0 1 (a 31) (d 31) ["_law_purse_here", "_law_many"] (spS (b1 m_law_draw)) := by
  refine T.f_law_draw.ok sc_law_draw (fun vs H Q E h => ?_) (fun cdv A outer s H vs Q E hr h => ?_)
  · obtain ⟨B, p, u, p1, vp1, R, rfl, _⟩ := ss1 h
    rfl
  · obtain ⟨B, p, u, p1, vp1, R, rfl, sB, W, rp1, hM, k⟩ := ss1 h
    have nd := sc_law_draw.nd
    refine ⟨_, (pss_cons (ps_if (pt_cmpR op_gt (pe_lock (pe_ix (ix_anyK (K := K) rfl hr.units) (pv 0) pe_int (fun _ _ => rfl))) pe_int (nomark _)) (pss_cons (ps_asg (pe_callB call_divmod (by rfl) T.b_divmod bb_divmod (pa_cons (pe_lock (pe_ix (ix_anyK (K := K) rfl hr.units) (pv 0) pe_int (fun _ _ => rfl))) (pa_cons (pv 1) pa_nil))) (pg_tupK (K := K) rfl (by rfl) (pgs_cons (pg_sub (pv 0) pe_int set_list) (pgs_cons (pg_name (i := 2) nd rfl (Or.inl rfl)) pgs_nil)))) (pss_cons (ps_ret (pv 2)) pss_nil)) pss_nil) (pss_cons (ps_asg (pe_op op_mod (pe_callTy call_int1 (by rfl) T.b_int bb_int (pa_cons (pe_op (op_addK (K := K) rfl) (pe_op op_mulU (pe_lock (pe_ix (ix_anyK (K := K) rfl hr.units) (pv 0) pe_int (fun _ _ => rfl))) pe_int) pe_int) pa_nil)) pe_int) (pg_sub (pv 0) pe_int set_list)) (pss_cons (ps_ret (pe_op op_mod (pe_callTy call_int1 (by rfl) T.b_int bb_int (pa_cons (pe_op op_fdiv (pe_lock (pe_ix (ix_anyK (K := K) rfl hr.units) (pv 0) pe_int (fun _ _ => rfl))) pe_int) pa_nil)) (pv 1))) pss_nil))), ?_⟩
    exact (q_ifS W (ets_test (es_op2 rv_gt (es_lockO (j := 0) rfl fun u1 _ _ s2 r3 => (eo_op2 rv_get (eo_var rfl r3) eo_int)) (es_of (H := H) eo_int))) hM (fun B4 H5 us10 W11 s12 h6 => (q_setTwo (jj := 0) W11 rfl rfl (es_cb rc_divmod (eas_cons (es_lockO (j := 0) rfl fun u16 _ _ s17 r18 => (eo_op2 rv_get (eo_var rfl r18) eo_int)) (eas_cons (es_of (H := H) (eo_var rfl (rp1.sm s12))) eas_nil))) (es_of (H := H) eo_int) h6 fun y19 v20 B21 H22 us23 W24 s25 r26 h27 => (q_retS W24 (es_of (H := H) (eo_var rfl r26)) h27 k))) (fun B7 H8 us13 W14 s15 h9 => (q_setL (jj := 0) W14 rfl rfl (es_op2 rv_mod (es_cb rc_int (eas_cons (es_op2 rv_add (es_op2 rv_mul (es_lockO (j := 0) rfl fun u30 _ _ s31 r32 => (eo_op2 rv_get (eo_var rfl r32) eo_int)) (es_of (H := H) eo_int)) (es_of (H := H) eo_int)) eas_nil)) (es_of (H := H) eo_int)) (es_of (H := H) eo_int) h9 fun B33 H34 us35 W36 s37 h38 => (q_retS W36 (es_op2 rv_mod (es_cb rc_int (eas_cons (es_op2 rv_fdiv (es_lockO (j := 0) rfl fun u41 _ _ s42 r43 => (eo_op2 rv_get (eo_var rfl r43) eo_int)) (es_of (H := H) eo_int)) eas_nil)) (es_of (H := H) (eo_var rfl ((rp1.sm s15).sm s37)))) h38 k))))
/-! _law_thing -/
abbrev s_law_thing : Stmt := top 32
abbrev N_law_thing : List Str := ["_law_purse_here", "_law_some"]
theorem sc_law_thing : FnScope N_law_thing ["_law_purse_here"] (defScope s_law_thing) := ⟨rfl, rfl, rfl, by decide +kernel, rfl, by decide +kernel, by decide +kernel⟩
def m_law_thing : SM U := (bindS (pureS (lstO (consO (some U.non) (consO (some (U.bl true)) (consO (some (U.int 0)) (consO (op1 negV (op2 powV (some (U.int 10)) (some (U.int 30)))) (consO (some (U.str "")) (consO (some (U.str "a")) (consO (some (U.str "a; b a")) (consO (tupO (some [])) (consO (tupO (consO (some (U.str "a")) (consO (tupO (consO (some (U.str "b")) (consO (some (U.int 1)) (some [])))) (some [])))) (consO (lstO (some [])) (consO (lstO (consO (lstO (consO (some (U.str "a")) (some []))) (some []))) (consO (some (U.dic [])) (consO (dispO (((some (U.str "a")), (tupO (some []))) :: [])) (some [])))))))))))))))) fun x1 => (opS getV (pureS (some x1)) (bindS (pureS (consO (some (U.int 13)) (some []))) fun xs => callM 0 (b1 m_law_draw) xs)))
theorem ok_law_thing (T : Tx w K mg base a d) : FnOk P w K mg base CX0 2 (a 32) (d 32) ["_law_purse_here"] (spS (b0 m_law_thing)) := by
  refine T.f_law_thing.ok sc_law_thing (fun vs H Q E h => ?_) (fun cdv A outer s H vs Q E hr h => ?_)
  · obtain ⟨B, p, u, R, rfl, _⟩ := ss0 h
    rfl
  · obtain ⟨B, p, u, R, rfl, sB, W, hM, k⟩ := ss0 h
    have nd := sc_law_thing.nd
    refine ⟨_, (pss_cons (ps_set (i := 1) nd rfl (Or.inl rfl) (pe_lst (pa_cons pe_non (pa_cons pe_bl (pa_cons pe_int (pa_cons (pe_un un_neg (pe_op op_pow pe_int pe_int)) (pa_cons pe_str (pa_cons pe_str (pa_cons pe_str (pa_cons (pe_tup pa_nil) (pa_cons (pe_tup (pa_cons pe_str (pa_cons (pe_tup (pa_cons pe_str (pa_cons pe_int pa_nil))) pa_nil))) (pa_cons (pe_lst pa_nil) (pa_cons (pe_lst (pa_cons (pe_lst (pa_cons pe_str pa_nil)) pa_nil)) (pa_cons (pe_frz pe_dnewK) (pa_cons (pe_frz (pe_disp (pps_cons pe_str (pe_tup pa_nil) pps_nil) (by rfl) (by rfl) (fun z => by cases z) (by decide))) pa_nil))))))))))))))) (pss_cons (ps_ret (pe_ix (ix_anyK (K := K) rfl hr.units) (pv 1) (pe_call (ok_law_draw T) (hr.mono (by decide)) (by rfl) T.g_law_draw T.f_law_draw.kp T.bd_law_draw .nil pass0 (pa_cons (pv 0) (pa_cons pe_int pa_nil))) (fun _ _ => rfl))) pss_nil)), ?_⟩
    exact (q_asgS W (es_of (H := H) (eo_lst (ea_cons eo_non (ea_cons eo_bl (ea_cons eo_int (ea_cons (eo_op1 ru_neg (eo_op2 rv_pow eo_int eo_int)) (ea_cons eo_str (ea_cons eo_str (ea_cons eo_str (ea_cons (eo_tup ea_nil) (ea_cons (eo_tup (ea_cons eo_str (ea_cons (eo_tup (ea_cons eo_str (ea_cons eo_int ea_nil))) ea_nil))) (ea_cons (eo_lst ea_nil) (ea_cons (eo_lst (ea_cons (eo_lst (ea_cons eo_str ea_nil)) ea_nil)) (ea_cons eo_dnil (ea_cons (eo_disp (Dp2.cons eo_str (eo_tup ea_nil) Dp2.nil)) ea_nil))))))))))))))) hM fun x1 v2 B3 H4 us7 W8 s9 r6 h5 => (q_retS W8 (es_op2 rv_get (es_of (H := H) (eo_var rfl r6)) (es_callM (j := 0) rfl rfl (eas_of (H := H) (ea_cons eo_int ea_nil)))) h5 k))
/-! _law_firsts -/
abbrev s_law_firsts : Stmt := top 33
abbrev N_law_firsts : List Str := ["_law_x", "_law_found"]
theorem sc_law_firsts : FnScope N_law_firsts ["_law_x"] (defScope s_law_firsts) := ⟨rfl, rfl, rfl, by decide +kernel, rfl, by decide +kernel, by decide +kernel⟩
def m_law_firsts (p0 : U) : Option U := ((lstO (consO (tupO (consO (callO (exc1 0 "given") (consO (some p0) (some []))) (consO (callO (exc1 0 "given") (consO (some p0) (some []))) (some [])))) (consO (tupO (consO (callO (exc1 1 "given") (consO (some p0) (some []))) (consO (callO (exc1 1 "given") (consO (some p0) (some []))) (some [])))) (some [])))).bind fun x1 => ((op2 addV (some x1) (lstO (consO (tupO (consO (callO (exc1 2 "given") (consO (some p0) (some []))) (consO (callO (exc1 2 "given") (consO (some p0) (some []))) (some [])))) (consO (tupO (consO (callO (exc1 3 "given") (consO (some p0) (some []))) (consO (callO (exc1 3 "given") (consO (some p0) (some []))) (some [])))) (some []))))).bind fun x8 => ((op2 addV (some x8) (lstO (consO (tupO (consO (callO (exc1 4 "given") (consO (some p0) (some []))) (consO (callO (exc1 4 "given") (consO (some p0) (some []))) (some [])))) (consO (tupO (consO (callO (exc1 5 "given") (consO (some p0) (some []))) (consO (callO (exc1 5 "given") (consO (some p0) (some []))) (some [])))) (some []))))).bind fun x15 => ((op2 addV (some x15) (lstO (consO (tupO (consO (callO (exc1 6 "given") (consO (some p0) (some []))) (consO (callO (exc1 6 "given") (consO (some p0) (some []))) (some [])))) (consO (tupO (consO (callO (exc1 7 "given") (consO (some p0) (some []))) (consO (callO (exc1 7 "given") (consO (some p0) (some []))) (some [])))) (some []))))).bind fun x22 => ((op2 addV (some x22) (lstO (consO (tupO (consO (callO (exc1 8 "given") (consO (some p0) (some []))) (consO (callO (exc1 8 "given") (consO (some p0) (some []))) (some [])))) (consO (tupO (consO (callO (exc1 9 "given") (consO (some p0) (some []))) (consO (callO (exc1 9 "given") (consO (some p0) (some []))) (some [])))) (some []))))).bind fun x29 => ((op2 addV (some x29) (lstO (consO (tupO (consO (callO (exc1 10 "index") (consO (some p0) (some []))) (consO (callO (exc1 10 "index") (consO (some p0) (some []))) (some [])))) (consO (tupO (consO (callO (exc1 11 "index") (consO (some p0) (some []))) (consO (callO (exc1 11 "index") (consO (some p0) (some []))) (some [])))) (some []))))).bind fun x36 => (op2 addV (some x36) (lstO (consO (tupO (consO (callO (exc1 12 "index") (consO (some p0) (some []))) (consO (callO (exc1 12 "index") (consO (some p0) (some []))) (some [])))) (consO (tupO (consO (callO (exc1 13 "index") (consO (some p0) (some []))) (consO (callO (exc1 13 "index") (consO (some p0) (some []))) (some [])))) (some [])))))))))))
theorem ok_law_firsts (T : Tx w K mg base a d) : FnOk P w K mg base CX0 3 (a 33) (d 33) ["_law_x"] (spU (a1 m_law_firsts)) := by
  refine T.f_law_firsts.ok sc_law_firsts (fun vs H Q E h => ?_) (fun cdv A outer s H vs Q E hr h => ?_)
  · obtain ⟨B, p0, vp0, r, rfl, _⟩ := sp1 h
    rfl
  · obtain ⟨B, p0, vp0, r, rfl, sB, rp0, hM, k⟩ := sp1 h
    have nd := sc_law_firsts.nd
    refine ⟨_, (pss_cons (ps_set (i := 1) nd rfl (Or.inl rfl) (pe_lst (pa_cons (pe_tup (pa_cons (pe_excV T.xo_InvalidText T.xi_InvalidText T.xt_InvalidText (ok_InvalidText___init__ T) (hr.mono (by decide)) T.bd_InvalidText___init__ pass0 (by rfl) T.g_InvalidText (pa_cons (pv 0) pa_nil)) (pa_cons (pe_excK T.xo_InvalidText T.xi_InvalidText T.xt_InvalidText (ok_InvalidText___init__ T) (hr.mono (by decide)) (kb1 T.f_InvalidText___init__ (fun _ _ _ _ _ _ _ _ => rfl)) pass0 (by rfl) T.g_InvalidText (pk_cons (pv 0) pk_nil)) pa_nil))) (pa_cons (pe_tup (pa_cons (pe_excV T.xo_InvalidNumber T.xi_InvalidNumber T.xt_InvalidNumber (ok_InvalidNumber___init__ T) (hr.mono (by decide)) T.bd_InvalidNumber___init__ pass0 (by rfl) T.g_InvalidNumber (pa_cons (pv 0) pa_nil)) (pa_cons (pe_excK T.xo_InvalidNumber T.xi_InvalidNumber T.xt_InvalidNumber (ok_InvalidNumber___init__ T) (hr.mono (by decide)) (kb1 T.f_InvalidNumber___init__ (fun _ _ _ _ _ _ _ _ => rfl)) pass0 (by rfl) T.g_InvalidNumber (pk_cons (pv 0) pk_nil)) pa_nil))) pa_nil)))) (pss_cons (ps_set (i := 1) nd rfl (Or.inl rfl) (pe_op (op_addK (K := K) rfl) (pv 1) (pe_lst (pa_cons (pe_tup (pa_cons (pe_excV T.xo_InvalidName T.xi_InvalidName T.xt_InvalidName (ok_InvalidName___init__ T) (hr.mono (by decide)) T.bd_InvalidName___init__ pass0 (by rfl) T.g_InvalidName (pa_cons (pv 0) pa_nil)) (pa_cons (pe_excK T.xo_InvalidName T.xi_InvalidName T.xt_InvalidName (ok_InvalidName___init__ T) (hr.mono (by decide)) (kb1 T.f_InvalidName___init__ (fun _ _ _ _ _ _ _ _ => rfl)) pass0 (by rfl) T.g_InvalidName (pk_cons (pv 0) pk_nil)) pa_nil))) (pa_cons (pe_tup (pa_cons (pe_excV T.xo_InvalidIndex T.xi_InvalidIndex T.xt_InvalidIndex (ok_InvalidIndex___init__ T) (hr.mono (by decide)) T.bd_InvalidIndex___init__ pass0 (by rfl) T.g_InvalidIndex (pa_cons (pv 0) pa_nil)) (pa_cons (pe_excK T.xo_InvalidIndex T.xi_InvalidIndex T.xt_InvalidIndex (ok_InvalidIndex___init__ T) (hr.mono (by decide)) (kb1 T.f_InvalidIndex___init__ (fun _ _ _ _ _ _ _ _ => rfl)) pass0 (by rfl) T.g_InvalidIndex (pk_cons (pv 0) pk_nil)) pa_nil))) pa_nil))))) (pss_cons (ps_set (i := 1) nd rfl (Or.inl rfl) (pe_op (op_addK (K := K) rfl) (pv 1) (pe_lst (pa_cons (pe_tup (pa_cons (pe_excV T.xo_InvalidClaim T.xi_InvalidClaim T.xt_InvalidClaim (ok_InvalidClaim___init__ T) (hr.mono (by decide)) T.bd_InvalidClaim___init__ pass0 (by rfl) T.g_InvalidClaim (pa_cons (pv 0) pa_nil)) (pa_cons (pe_excK T.xo_InvalidClaim T.xi_InvalidClaim T.xt_InvalidClaim (ok_InvalidClaim___init__ T) (hr.mono (by decide)) (kb1 T.f_InvalidClaim___init__ (fun _ _ _ _ _ _ _ _ => rfl)) pass0 (by rfl) T.g_InvalidClaim (pk_cons (pv 0) pk_nil)) pa_nil))) (pa_cons (pe_tup (pa_cons (pe_excV T.xo_InvalidChoice T.xi_InvalidChoice T.xt_InvalidChoice (ok_InvalidChoice___init__ T) (hr.mono (by decide)) T.bd_InvalidChoice___init__ pass0 (by rfl) T.g_InvalidChoice (pa_cons (pv 0) pa_nil)) (pa_cons (pe_excK T.xo_InvalidChoice T.xi_InvalidChoice T.xt_InvalidChoice (ok_InvalidChoice___init__ T) (hr.mono (by decide)) (kb1 T.f_InvalidChoice___init__ (fun _ _ _ _ _ _ _ _ => rfl)) pass0 (by rfl) T.g_InvalidChoice (pk_cons (pv 0) pk_nil)) pa_nil))) pa_nil))))) (pss_cons (ps_set (i := 1) nd rfl (Or.inl rfl) (pe_op (op_addK (K := K) rfl) (pv 1) (pe_lst (pa_cons (pe_tup (pa_cons (pe_excV T.xo_UnknownName T.xi_UnknownName T.xt_UnknownName (ok_UnknownName___init__ T) (hr.mono (by decide)) T.bd_UnknownName___init__ pass0 (by rfl) T.g_UnknownName (pa_cons (pv 0) pa_nil)) (pa_cons (pe_excK T.xo_UnknownName T.xi_UnknownName T.xt_UnknownName (ok_UnknownName___init__ T) (hr.mono (by decide)) (kb1 T.f_UnknownName___init__ (fun _ _ _ _ _ _ _ _ => rfl)) pass0 (by rfl) T.g_UnknownName (pk_cons (pv 0) pk_nil)) pa_nil))) (pa_cons (pe_tup (pa_cons (pe_excV T.xo_NotAWeb T.xi_NotAWeb T.xt_NotAWeb (ok_NotAWeb___init__ T) (hr.mono (by decide)) T.bd_NotAWeb___init__ pass0 (by rfl) T.g_NotAWeb (pa_cons (pv 0) pa_nil)) (pa_cons (pe_excK T.xo_NotAWeb T.xi_NotAWeb T.xt_NotAWeb (ok_NotAWeb___init__ T) (hr.mono (by decide)) (kb1 T.f_NotAWeb___init__ (fun _ _ _ _ _ _ _ _ => rfl)) pass0 (by rfl) T.g_NotAWeb (pk_cons (pv 0) pk_nil)) pa_nil))) pa_nil))))) (pss_cons (ps_set (i := 1) nd rfl (Or.inl rfl) (pe_op (op_addK (K := K) rfl) (pv 1) (pe_lst (pa_cons (pe_tup (pa_cons (pe_excV T.xo_NotAShelf T.xi_NotAShelf T.xt_NotAShelf (ok_NotAShelf___init__ T) (hr.mono (by decide)) T.bd_NotAShelf___init__ pass0 (by rfl) T.g_NotAShelf (pa_cons (pv 0) pa_nil)) (pa_cons (pe_excK T.xo_NotAShelf T.xi_NotAShelf T.xt_NotAShelf (ok_NotAShelf___init__ T) (hr.mono (by decide)) (kb1 T.f_NotAShelf___init__ (fun _ _ _ _ _ _ _ _ => rfl)) pass0 (by rfl) T.g_NotAShelf (pk_cons (pv 0) pk_nil)) pa_nil))) (pa_cons (pe_tup (pa_cons (pe_excV T.xo_InvalidSources T.xi_InvalidSources T.xt_InvalidSources (ok_InvalidSources___init__ T) (hr.mono (by decide)) T.bd_InvalidSources___init__ pass0 (by rfl) T.g_InvalidSources (pa_cons (pv 0) pa_nil)) (pa_cons (pe_excK T.xo_InvalidSources T.xi_InvalidSources T.xt_InvalidSources (ok_InvalidSources___init__ T) (hr.mono (by decide)) (kb1 T.f_InvalidSources___init__ (fun _ _ _ _ _ _ _ _ => rfl)) pass0 (by rfl) T.g_InvalidSources (pk_cons (pv 0) pk_nil)) pa_nil))) pa_nil))))) (pss_cons (ps_set (i := 1) nd rfl (Or.inl rfl) (pe_op (op_addK (K := K) rfl) (pv 1) (pe_lst (pa_cons (pe_tup (pa_cons (pe_excV T.xo_InvalidTold T.xi_InvalidTold T.xt_InvalidTold (ok_InvalidTold___init__ T) (hr.mono (by decide)) T.bd_InvalidTold___init__ pass0 (by rfl) T.g_InvalidTold (pa_cons (pv 0) pa_nil)) (pa_cons (pe_excK T.xo_InvalidTold T.xi_InvalidTold T.xt_InvalidTold (ok_InvalidTold___init__ T) (hr.mono (by decide)) (kb1 T.f_InvalidTold___init__ (fun _ _ _ _ _ _ _ _ => rfl)) pass0 (by rfl) T.g_InvalidTold (pk_cons (pv 0) pk_nil)) pa_nil))) (pa_cons (pe_tup (pa_cons (pe_excV T.xo_InvalidWeights T.xi_InvalidWeights T.xt_InvalidWeights (ok_InvalidWeights___init__ T) (hr.mono (by decide)) T.bd_InvalidWeights___init__ pass0 (by rfl) T.g_InvalidWeights (pa_cons (pv 0) pa_nil)) (pa_cons (pe_excK T.xo_InvalidWeights T.xi_InvalidWeights T.xt_InvalidWeights (ok_InvalidWeights___init__ T) (hr.mono (by decide)) (kb1 T.f_InvalidWeights___init__ (fun _ _ _ _ _ _ _ _ => rfl)) pass0 (by rfl) T.g_InvalidWeights (pk_cons (pv 0) pk_nil)) pa_nil))) pa_nil))))) (pss_cons (ps_ret (pe_op (op_addK (K := K) rfl) (pv 1) (pe_lst (pa_cons (pe_tup (pa_cons (pe_excV T.xo_InvalidOffers T.xi_InvalidOffers T.xt_InvalidOffers (ok_InvalidOffers___init__ T) (hr.mono (by decide)) T.bd_InvalidOffers___init__ pass0 (by rfl) T.g_InvalidOffers (pa_cons (pv 0) pa_nil)) (pa_cons (pe_excK T.xo_InvalidOffers T.xi_InvalidOffers T.xt_InvalidOffers (ok_InvalidOffers___init__ T) (hr.mono (by decide)) (kb1 T.f_InvalidOffers___init__ (fun _ _ _ _ _ _ _ _ => rfl)) pass0 (by rfl) T.g_InvalidOffers (pk_cons (pv 0) pk_nil)) pa_nil))) (pa_cons (pe_tup (pa_cons (pe_excV T.xo_InvalidFreed T.xi_InvalidFreed T.xt_InvalidFreed (ok_InvalidFreed___init__ T) (hr.mono (by decide)) T.bd_InvalidFreed___init__ pass0 (by rfl) T.g_InvalidFreed (pa_cons (pv 0) pa_nil)) (pa_cons (pe_excK T.xo_InvalidFreed T.xi_InvalidFreed T.xt_InvalidFreed (ok_InvalidFreed___init__ T) (hr.mono (by decide)) (kb1 T.f_InvalidFreed___init__ (fun _ _ _ _ _ _ _ _ => rfl)) pass0 (by rfl) T.g_InvalidFreed (pk_cons (pv 0) pk_nil)) pa_nil))) pa_nil))))) pss_nil))))))), ?_⟩
    exact (q_asg sB (eo_lst (ea_cons (eo_tup (ea_cons (eo_excV1 (ea_cons (eo_var rfl rp0) ea_nil)) (ea_cons (eo_excK1 (fun _ _ => rfl) (ea_cons (eo_var rfl rp0) ea_nil)) ea_nil))) (ea_cons (eo_tup (ea_cons (eo_excV1 (ea_cons (eo_var rfl rp0) ea_nil)) (ea_cons (eo_excK1 (fun _ _ => rfl) (ea_cons (eo_var rfl rp0) ea_nil)) ea_nil))) ea_nil))) hM fun x1 v2 B3 H4 g7 r6 h5 => (q_asg g7.bh (eo_op2 rv_add (eo_var rfl r6) (eo_lst (ea_cons (eo_tup (ea_cons (eo_excV1 (ea_cons (eo_var rfl (rp0.up g7)) ea_nil)) (ea_cons (eo_excK1 (fun _ _ => rfl) (ea_cons (eo_var rfl (rp0.up g7)) ea_nil)) ea_nil))) (ea_cons (eo_tup (ea_cons (eo_excV1 (ea_cons (eo_var rfl (rp0.up g7)) ea_nil)) (ea_cons (eo_excK1 (fun _ _ => rfl) (ea_cons (eo_var rfl (rp0.up g7)) ea_nil)) ea_nil))) ea_nil)))) h5 fun x8 v9 B10 H11 g14 r13 h12 => (q_asg g14.bh (eo_op2 rv_add (eo_var rfl r13) (eo_lst (ea_cons (eo_tup (ea_cons (eo_excV1 (ea_cons (eo_var rfl ((rp0.up g7).up g14)) ea_nil)) (ea_cons (eo_excK1 (fun _ _ => rfl) (ea_cons (eo_var rfl ((rp0.up g7).up g14)) ea_nil)) ea_nil))) (ea_cons (eo_tup (ea_cons (eo_excV1 (ea_cons (eo_var rfl ((rp0.up g7).up g14)) ea_nil)) (ea_cons (eo_excK1 (fun _ _ => rfl) (ea_cons (eo_var rfl ((rp0.up g7).up g14)) ea_nil)) ea_nil))) ea_nil)))) h12 fun x15 v16 B17 H18 g21 r20 h19 => (q_asg g21.bh (eo_op2 rv_add (eo_var rfl r20) (eo_lst (ea_cons (eo_tup (ea_cons (eo_excV1 (ea_cons (eo_var rfl (((rp0.up g7).up g14).up g21)) ea_nil)) (ea_cons (eo_excK1 (fun _ _ => rfl) (ea_cons (eo_var rfl (((rp0.up g7).up g14).up g21)) ea_nil)) ea_nil))) (ea_cons (eo_tup (ea_cons (eo_excV1 (ea_cons (eo_var rfl (((rp0.up g7).up g14).up g21)) ea_nil)) (ea_cons (eo_excK1 (fun _ _ => rfl) (ea_cons (eo_var rfl (((rp0.up g7).up g14).up g21)) ea_nil)) ea_nil))) ea_nil)))) h19 fun x22 v23 B24 H25 g28 r27 h26 => (q_asg g28.bh (eo_op2 rv_add (eo_var rfl r27) (eo_lst (ea_cons (eo_tup (ea_cons (eo_excV1 (ea_cons (eo_var rfl ((((rp0.up g7).up g14).up g21).up g28)) ea_nil)) (ea_cons (eo_excK1 (fun _ _ => rfl) (ea_cons (eo_var rfl ((((rp0.up g7).up g14).up g21).up g28)) ea_nil)) ea_nil))) (ea_cons (eo_tup (ea_cons (eo_excV1 (ea_cons (eo_var rfl ((((rp0.up g7).up g14).up g21).up g28)) ea_nil)) (ea_cons (eo_excK1 (fun _ _ => rfl) (ea_cons (eo_var rfl ((((rp0.up g7).up g14).up g21).up g28)) ea_nil)) ea_nil))) ea_nil)))) h26 fun x29 v30 B31 H32 g35 r34 h33 => (q_asg g35.bh (eo_op2 rv_add (eo_var rfl r34) (eo_lst (ea_cons (eo_tup (ea_cons (eo_excV1 (ea_cons (eo_var rfl (((((rp0.up g7).up g14).up g21).up g28).up g35)) ea_nil)) (ea_cons (eo_excK1 (fun _ _ => rfl) (ea_cons (eo_var rfl (((((rp0.up g7).up g14).up g21).up g28).up g35)) ea_nil)) ea_nil))) (ea_cons (eo_tup (ea_cons (eo_excV1 (ea_cons (eo_var rfl (((((rp0.up g7).up g14).up g21).up g28).up g35)) ea_nil)) (ea_cons (eo_excK1 (fun _ _ => rfl) (ea_cons (eo_var rfl (((((rp0.up g7).up g14).up g21).up g28).up g35)) ea_nil)) ea_nil))) ea_nil)))) h33 fun x36 v37 B38 H39 g42 r41 h40 => (q_ret (eo_op2 rv_add (eo_var rfl r41) (eo_lst (ea_cons (eo_tup (ea_cons (eo_excV1 (ea_cons (eo_var rfl ((((((rp0.up g7).up g14).up g21).up g28).up g35).up g42)) ea_nil)) (ea_cons (eo_excK1 (fun _ _ => rfl) (ea_cons (eo_var rfl ((((((rp0.up g7).up g14).up g21).up g28).up g35).up g42)) ea_nil)) ea_nil))) (ea_cons (eo_tup (ea_cons (eo_excV1 (ea_cons (eo_var rfl ((((((rp0.up g7).up g14).up g21).up g28).up g35).up g42)) ea_nil)) (ea_cons (eo_excK1 (fun _ _ => rfl) (ea_cons (eo_var rfl ((((((rp0.up g7).up g14).up g21).up g28).up g35).up g42)) ea_nil)) ea_nil))) ea_nil)))) h40 (((((((Go.refl sB).trans g7).trans g14).trans g21).trans g28).trans g35).trans g42) k)))))))
/-! _law_seconds -/
abbrev s_law_seconds : Stmt := top 34
abbrev N_law_seconds : List Str := ["_law_x", "_law_found"]
theorem sc_law_seconds : FnScope N_law_seconds ["_law_x"] (defScope s_law_seconds) := ⟨rfl, rfl, rfl, by decide +kernel, rfl, by decide +kernel, by decide +kernel⟩
def m_law_seconds (p0 : U) : Option U := ((lstO (consO (tupO (consO (some (U.exc 14 [])) (consO (some (U.exc 14 [])) (some [])))) (consO (tupO (consO (callO (exc1 15 "number") (consO (some p0) (some []))) (consO (callO (exc1 15 "number") (consO (some p0) (some []))) (some [])))) (consO (tupO (consO (callO (exc1 16 "given") (consO (some p0) (some []))) (consO (callO (exc1 16 "given") (consO (some p0) (some []))) (some [])))) (some []))))).bind fun x1 => ((op2 addV (some x1) (lstO (consO (tupO (consO (callO (exc2 17 "index" "told") (consO (some p0) (consO (some (U.int 1)) (some [])))) (consO (callO (exc2s 17 "index" "told") (consO (some (U.int 1)) (consO (some p0) (some [])))) (some [])))) (consO (tupO (consO (callO (exc1 18 "index") (consO (some p0) (some []))) (consO (callO (exc1 18 "index") (consO (some p0) (some []))) (some [])))) (some []))))).bind fun x8 => (op2 addV (some x8) (lstO (consO (tupO (consO (some (U.exc 19 [])) (consO (some (U.exc 19 [])) (some [])))) (some []))))))
theorem ok_law_seconds (T : Tx w K mg base a d) : FnOk P w K mg base CX0 3 (a 34) (d 34) ["_law_x"] (spU (a1 m_law_seconds)) := by
  refine T.f_law_seconds.ok sc_law_seconds (fun vs H Q E h => ?_) (fun cdv A outer s H vs Q E hr h => ?_)
  · obtain ⟨B, p0, vp0, r, rfl, _⟩ := sp1 h
    rfl
  · obtain ⟨B, p0, vp0, r, rfl, sB, rp0, hM, k⟩ := sp1 h
    have nd := sc_law_seconds.nd
    refine ⟨_, (pss_cons (ps_set (i := 1) nd rfl (Or.inl rfl) (pe_lst (pa_cons (pe_tup (pa_cons (pe_exc0K (K := K) rfl T.x0_NoChoice T.xk_NoChoice (by rfl) T.g_NoChoice) (pa_cons (pe_exc0K (K := K) rfl T.x0_NoChoice T.xk_NoChoice (by rfl) T.g_NoChoice) pa_nil))) (pa_cons (pe_tup (pa_cons (pe_excV T.xo_TooMany T.xi_TooMany T.xt_TooMany (ok_TooMany___init__ T) (hr.mono (by decide)) T.bd_TooMany___init__ pass0 (by rfl) T.g_TooMany (pa_cons (pv 0) pa_nil)) (pa_cons (pe_excK T.xo_TooMany T.xi_TooMany T.xt_TooMany (ok_TooMany___init__ T) (hr.mono (by decide)) (kb1 T.f_TooMany___init__ (fun _ _ _ _ _ _ _ _ => rfl)) pass0 (by rfl) T.g_TooMany (pk_cons (pv 0) pk_nil)) pa_nil))) (pa_cons (pe_tup (pa_cons (pe_excV T.xo_FullSource T.xi_FullSource T.xt_FullSource (ok_FullSource___init__ T) (hr.mono (by decide)) T.bd_FullSource___init__ pass0 (by rfl) T.g_FullSource (pa_cons (pv 0) pa_nil)) (pa_cons (pe_excK T.xo_FullSource T.xi_FullSource T.xt_FullSource (ok_FullSource___init__ T) (hr.mono (by decide)) (kb1 T.f_FullSource___init__ (fun _ _ _ _ _ _ _ _ => rfl)) pass0 (by rfl) T.g_FullSource (pk_cons (pv 0) pk_nil)) pa_nil))) pa_nil))))) (pss_cons (ps_set (i := 1) nd rfl (Or.inl rfl) (pe_op (op_addK (K := K) rfl) (pv 1) (pe_lst (pa_cons (pe_tup (pa_cons (pe_excV T.xo_Broken T.xi_Broken T.xt_Broken (ok_Broken___init__ T) (hr.mono (by decide)) T.bd_Broken___init__ pass0 (by rfl) T.g_Broken (pa_cons (pv 0) (pa_cons pe_int pa_nil))) (pa_cons (pe_excK T.xo_Broken T.xi_Broken T.xt_Broken (ok_Broken___init__ T) (hr.mono (by decide)) (kb2s T.f_Broken___init__ (fun _ _ _ _ _ _ _ _ _ => rfl)) pass0 (by rfl) T.g_Broken (pk_cons pe_int (pk_cons (pv 0) pk_nil))) pa_nil))) (pa_cons (pe_tup (pa_cons (pe_excV T.xo_InUse T.xi_InUse T.xt_InUse (ok_InUse___init__ T) (hr.mono (by decide)) T.bd_InUse___init__ pass0 (by rfl) T.g_InUse (pa_cons (pv 0) pa_nil)) (pa_cons (pe_excK T.xo_InUse T.xi_InUse T.xt_InUse (ok_InUse___init__ T) (hr.mono (by decide)) (kb1 T.f_InUse___init__ (fun _ _ _ _ _ _ _ _ => rfl)) pass0 (by rfl) T.g_InUse (pk_cons (pv 0) pk_nil)) pa_nil))) pa_nil))))) (pss_cons (ps_ret (pe_op (op_addK (K := K) rfl) (pv 1) (pe_lst (pa_cons (pe_tup (pa_cons (pe_exc0K (K := K) rfl T.x0_NothingToUndo T.xk_NothingToUndo (by rfl) T.g_NothingToUndo) (pa_cons (pe_exc0K (K := K) rfl T.x0_NothingToUndo T.xk_NothingToUndo (by rfl) T.g_NothingToUndo) pa_nil))) pa_nil)))) pss_nil))), ?_⟩
    exact (q_asg sB (eo_lst (ea_cons (eo_tup (ea_cons eo_exc0 (ea_cons eo_exc0 ea_nil))) (ea_cons (eo_tup (ea_cons (eo_excV1 (ea_cons (eo_var rfl rp0) ea_nil)) (ea_cons (eo_excK1 (fun _ _ => rfl) (ea_cons (eo_var rfl rp0) ea_nil)) ea_nil))) (ea_cons (eo_tup (ea_cons (eo_excV1 (ea_cons (eo_var rfl rp0) ea_nil)) (ea_cons (eo_excK1 (fun _ _ => rfl) (ea_cons (eo_var rfl rp0) ea_nil)) ea_nil))) ea_nil)))) hM fun x1 v2 B3 H4 g7 r6 h5 => (q_asg g7.bh (eo_op2 rv_add (eo_var rfl r6) (eo_lst (ea_cons (eo_tup (ea_cons (eo_excV2 (ea_cons (eo_var rfl (rp0.up g7)) (ea_cons eo_int ea_nil))) (ea_cons (eo_excK2 (fun _ _ _ => rfl) (ea_cons eo_int (ea_cons (eo_var rfl (rp0.up g7)) ea_nil))) ea_nil))) (ea_cons (eo_tup (ea_cons (eo_excV1 (ea_cons (eo_var rfl (rp0.up g7)) ea_nil)) (ea_cons (eo_excK1 (fun _ _ => rfl) (ea_cons (eo_var rfl (rp0.up g7)) ea_nil)) ea_nil))) ea_nil)))) h5 fun x8 v9 B10 H11 g14 r13 h12 => (q_ret (eo_op2 rv_add (eo_var rfl r13) (eo_lst (ea_cons (eo_tup (ea_cons eo_exc0 (ea_cons eo_exc0 ea_nil))) ea_nil))) h12 (((Go.refl sB).trans g7).trans g14) k)))
/-! _law_flags -/
abbrev s_law_flags : Stmt := top 35
abbrev N_law_flags : List Str := ["_law_e", "_law_found"]
theorem sc_law_flags : FnScope N_law_flags ["_law_e"] (defScope s_law_flags) := ⟨rfl, rfl, rfl, by decide +kernel, rfl, by decide +kernel, by decide +kernel⟩
def m_law_flags (p0 : U) : Option U := ((lstO (consO (op1 (isaX okX tabX_InvalidText) (some p0)) (consO (op1 (isaX okX tabX_InvalidNumber) (some p0)) (consO (op1 (isaX okX tabX_InvalidName) (some p0)) (some []))))).bind fun x1 => ((op2 addV (some x1) (lstO (consO (op1 (isaX okX tabX_InvalidIndex) (some p0)) (consO (op1 (isaX okX tabX_InvalidClaim) (some p0)) (consO (op1 (isaX okX tabX_InvalidChoice) (some p0)) (some [])))))).bind fun x8 => ((op2 addV (some x8) (lstO (consO (op1 (isaX okX tabX_UnknownName) (some p0)) (consO (op1 (isaX okX tabX_NotAWeb) (some p0)) (consO (op1 (isaX okX tabX_NotAShelf) (some p0)) (some [])))))).bind fun x15 => ((op2 addV (some x15) (lstO (consO (op1 (isaX okX tabX_InvalidSources) (some p0)) (consO (op1 (isaX okX tabX_InvalidTold) (some p0)) (consO (op1 (isaX okX tabX_InvalidWeights) (some p0)) (some [])))))).bind fun x22 => ((op2 addV (some x22) (lstO (consO (op1 (isaX okX tabX_InvalidOffers) (some p0)) (consO (op1 (isaX okX tabX_InvalidFreed) (some p0)) (consO (op1 (isaX okX tabX_NoChoice) (some p0)) (some [])))))).bind fun x29 => ((op2 addV (some x29) (lstO (consO (op1 (isaX okX tabX_TooMany) (some p0)) (consO (op1 (isaX okX tabX_FullSource) (some p0)) (consO (op1 (isaX okX tabX_Broken) (some p0)) (some [])))))).bind fun x36 => (op2 addV (some x36) (lstO (consO (op1 (isaX okX tabX_InUse) (some p0)) (consO (op1 (isaX okX tabX_NothingToUndo) (some p0)) (some [])))))))))))
theorem ok_law_flags (T : Tx w K mg base a d) : FnOk P w K mg base CX0 1 (a 35) (d 35) ["_law_e"] (spU (a1 m_law_flags)) := by
  refine T.f_law_flags.ok sc_law_flags (fun vs H Q E h => ?_) (fun cdv A outer s H vs Q E hr h => ?_)
  · obtain ⟨B, p0, vp0, r, rfl, _⟩ := sp1 h
    rfl
  · obtain ⟨B, p0, vp0, r, rfl, sB, rp0, hM, k⟩ := sp1 h
    have nd := sc_law_flags.nd
    refine ⟨_, (pss_cons (ps_set (i := 1) nd rfl (Or.inl rfl) (pe_lst (pa_cons (pe_callB (call_isX (K := K) rfl) (by rfl) T.b_isinstance bb_isinstance (pa_cons (pv 0) (pa_cons (pe_glob (v := .ref (CTab.ct 0)) (by rfl) T.g_InvalidText rfl) pa_nil))) (pa_cons (pe_callB (call_isX (K := K) rfl) (by rfl) T.b_isinstance bb_isinstance (pa_cons (pv 0) (pa_cons (pe_glob (v := .ref (CTab.ct 1)) (by rfl) T.g_InvalidNumber rfl) pa_nil))) (pa_cons (pe_callB (call_isX (K := K) rfl) (by rfl) T.b_isinstance bb_isinstance (pa_cons (pv 0) (pa_cons (pe_glob (v := .ref (CTab.ct 2)) (by rfl) T.g_InvalidName rfl) pa_nil))) pa_nil))))) (pss_cons (ps_set (i := 1) nd rfl (Or.inl rfl) (pe_op (op_addK (K := K) rfl) (pv 1) (pe_lst (pa_cons (pe_callB (call_isX (K := K) rfl) (by rfl) T.b_isinstance bb_isinstance (pa_cons (pv 0) (pa_cons (pe_glob (v := .ref (CTab.ct 3)) (by rfl) T.g_InvalidIndex rfl) pa_nil))) (pa_cons (pe_callB (call_isX (K := K) rfl) (by rfl) T.b_isinstance bb_isinstance (pa_cons (pv 0) (pa_cons (pe_glob (v := .ref (CTab.ct 4)) (by rfl) T.g_InvalidClaim rfl) pa_nil))) (pa_cons (pe_callB (call_isX (K := K) rfl) (by rfl) T.b_isinstance bb_isinstance (pa_cons (pv 0) (pa_cons (pe_glob (v := .ref (CTab.ct 5)) (by rfl) T.g_InvalidChoice rfl) pa_nil))) pa_nil)))))) (pss_cons (ps_set (i := 1) nd rfl (Or.inl rfl) (pe_op (op_addK (K := K) rfl) (pv 1) (pe_lst (pa_cons (pe_callB (call_isX (K := K) rfl) (by rfl) T.b_isinstance bb_isinstance (pa_cons (pv 0) (pa_cons (pe_glob (v := .ref (CTab.ct 6)) (by rfl) T.g_UnknownName rfl) pa_nil))) (pa_cons (pe_callB (call_isX (K := K) rfl) (by rfl) T.b_isinstance bb_isinstance (pa_cons (pv 0) (pa_cons (pe_glob (v := .ref (CTab.ct 7)) (by rfl) T.g_NotAWeb rfl) pa_nil))) (pa_cons (pe_callB (call_isX (K := K) rfl) (by rfl) T.b_isinstance bb_isinstance (pa_cons (pv 0) (pa_cons (pe_glob (v := .ref (CTab.ct 8)) (by rfl) T.g_NotAShelf rfl) pa_nil))) pa_nil)))))) (pss_cons (ps_set (i := 1) nd rfl (Or.inl rfl) (pe_op (op_addK (K := K) rfl) (pv 1) (pe_lst (pa_cons (pe_callB (call_isX (K := K) rfl) (by rfl) T.b_isinstance bb_isinstance (pa_cons (pv 0) (pa_cons (pe_glob (v := .ref (CTab.ct 9)) (by rfl) T.g_InvalidSources rfl) pa_nil))) (pa_cons (pe_callB (call_isX (K := K) rfl) (by rfl) T.b_isinstance bb_isinstance (pa_cons (pv 0) (pa_cons (pe_glob (v := .ref (CTab.ct 10)) (by rfl) T.g_InvalidTold rfl) pa_nil))) (pa_cons (pe_callB (call_isX (K := K) rfl) (by rfl) T.b_isinstance bb_isinstance (pa_cons (pv 0) (pa_cons (pe_glob (v := .ref (CTab.ct 11)) (by rfl) T.g_InvalidWeights rfl) pa_nil))) pa_nil)))))) (pss_cons (ps_set (i := 1) nd rfl (Or.inl rfl) (pe_op (op_addK (K := K) rfl) (pv 1) (pe_lst (pa_cons (pe_callB (call_isX (K := K) rfl) (by rfl) T.b_isinstance bb_isinstance (pa_cons (pv 0) (pa_cons (pe_glob (v := .ref (CTab.ct 12)) (by rfl) T.g_InvalidOffers rfl) pa_nil))) (pa_cons (pe_callB (call_isX (K := K) rfl) (by rfl) T.b_isinstance bb_isinstance (pa_cons (pv 0) (pa_cons (pe_glob (v := .ref (CTab.ct 13)) (by rfl) T.g_InvalidFreed rfl) pa_nil))) (pa_cons (pe_callB (call_isX (K := K) rfl) (by rfl) T.b_isinstance bb_isinstance (pa_cons (pv 0) (pa_cons (pe_glob (v := .ref (CTab.ct 14)) (by rfl) T.g_NoChoice rfl) pa_nil))) pa_nil)))))) (pss_cons (ps_set (i := 1) nd rfl (Or.inl rfl) (pe_op (op_addK (K := K) rfl) (pv 1) (pe_lst (pa_cons (pe_callB (call_isX (K := K) rfl) (by rfl) T.b_isinstance bb_isinstance (pa_cons (pv 0) (pa_cons (pe_glob (v := .ref (CTab.ct 15)) (by rfl) T.g_TooMany rfl) pa_nil))) (pa_cons (pe_callB (call_isX (K := K) rfl) (by rfl) T.b_isinstance bb_isinstance (pa_cons (pv 0) (pa_cons (pe_glob (v := .ref (CTab.ct 16)) (by rfl) T.g_FullSource rfl) pa_nil))) (pa_cons (pe_callB (call_isX (K := K) rfl) (by rfl) T.b_isinstance bb_isinstance (pa_cons (pv 0) (pa_cons (pe_glob (v := .ref (CTab.ct 17)) (by rfl) T.g_Broken rfl) pa_nil))) pa_nil)))))) (pss_cons (ps_ret (pe_op (op_addK (K := K) rfl) (pv 1) (pe_lst (pa_cons (pe_callB (call_isX (K := K) rfl) (by rfl) T.b_isinstance bb_isinstance (pa_cons (pv 0) (pa_cons (pe_glob (v := .ref (CTab.ct 18)) (by rfl) T.g_InUse rfl) pa_nil))) (pa_cons (pe_callB (call_isX (K := K) rfl) (by rfl) T.b_isinstance bb_isinstance (pa_cons (pv 0) (pa_cons (pe_glob (v := .ref (CTab.ct 19)) (by rfl) T.g_NothingToUndo rfl) pa_nil))) pa_nil))))) pss_nil))))))), ?_⟩
    exact (q_asg sB (eo_lst (ea_cons (eo_isX (c := .ref (CTab.ct 0)) (cv := .ref (CTab.ct 0)) (fun _ h => h) T.kt_InvalidText (eo_var rfl rp0)) (ea_cons (eo_isX (c := .ref (CTab.ct 1)) (cv := .ref (CTab.ct 1)) (fun _ h => h) T.kt_InvalidNumber (eo_var rfl rp0)) (ea_cons (eo_isX (c := .ref (CTab.ct 2)) (cv := .ref (CTab.ct 2)) (fun _ h => h) T.kt_InvalidName (eo_var rfl rp0)) ea_nil)))) hM fun x1 v2 B3 H4 g7 r6 h5 => (q_asg g7.bh (eo_op2 rv_add (eo_var rfl r6) (eo_lst (ea_cons (eo_isX (c := .ref (CTab.ct 3)) (cv := .ref (CTab.ct 3)) (fun _ h => h) T.kt_InvalidIndex (eo_var rfl (rp0.up g7))) (ea_cons (eo_isX (c := .ref (CTab.ct 4)) (cv := .ref (CTab.ct 4)) (fun _ h => h) T.kt_InvalidClaim (eo_var rfl (rp0.up g7))) (ea_cons (eo_isX (c := .ref (CTab.ct 5)) (cv := .ref (CTab.ct 5)) (fun _ h => h) T.kt_InvalidChoice (eo_var rfl (rp0.up g7))) ea_nil))))) h5 fun x8 v9 B10 H11 g14 r13 h12 => (q_asg g14.bh (eo_op2 rv_add (eo_var rfl r13) (eo_lst (ea_cons (eo_isX (c := .ref (CTab.ct 6)) (cv := .ref (CTab.ct 6)) (fun _ h => h) T.kt_UnknownName (eo_var rfl ((rp0.up g7).up g14))) (ea_cons (eo_isX (c := .ref (CTab.ct 7)) (cv := .ref (CTab.ct 7)) (fun _ h => h) T.kt_NotAWeb (eo_var rfl ((rp0.up g7).up g14))) (ea_cons (eo_isX (c := .ref (CTab.ct 8)) (cv := .ref (CTab.ct 8)) (fun _ h => h) T.kt_NotAShelf (eo_var rfl ((rp0.up g7).up g14))) ea_nil))))) h12 fun x15 v16 B17 H18 g21 r20 h19 => (q_asg g21.bh (eo_op2 rv_add (eo_var rfl r20) (eo_lst (ea_cons (eo_isX (c := .ref (CTab.ct 9)) (cv := .ref (CTab.ct 9)) (fun _ h => h) T.kt_InvalidSources (eo_var rfl (((rp0.up g7).up g14).up g21))) (ea_cons (eo_isX (c := .ref (CTab.ct 10)) (cv := .ref (CTab.ct 10)) (fun _ h => h) T.kt_InvalidTold (eo_var rfl (((rp0.up g7).up g14).up g21))) (ea_cons (eo_isX (c := .ref (CTab.ct 11)) (cv := .ref (CTab.ct 11)) (fun _ h => h) T.kt_InvalidWeights (eo_var rfl (((rp0.up g7).up g14).up g21))) ea_nil))))) h19 fun x22 v23 B24 H25 g28 r27 h26 => (q_asg g28.bh (eo_op2 rv_add (eo_var rfl r27) (eo_lst (ea_cons (eo_isX (c := .ref (CTab.ct 12)) (cv := .ref (CTab.ct 12)) (fun _ h => h) T.kt_InvalidOffers (eo_var rfl ((((rp0.up g7).up g14).up g21).up g28))) (ea_cons (eo_isX (c := .ref (CTab.ct 13)) (cv := .ref (CTab.ct 13)) (fun _ h => h) T.kt_InvalidFreed (eo_var rfl ((((rp0.up g7).up g14).up g21).up g28))) (ea_cons (eo_isX (c := .ref (CTab.ct 14)) (cv := .ref (CTab.ct 14)) (fun _ h => h) T.kt_NoChoice (eo_var rfl ((((rp0.up g7).up g14).up g21).up g28))) ea_nil))))) h26 fun x29 v30 B31 H32 g35 r34 h33 => (q_asg g35.bh (eo_op2 rv_add (eo_var rfl r34) (eo_lst (ea_cons (eo_isX (c := .ref (CTab.ct 15)) (cv := .ref (CTab.ct 15)) (fun _ h => h) T.kt_TooMany (eo_var rfl (((((rp0.up g7).up g14).up g21).up g28).up g35))) (ea_cons (eo_isX (c := .ref (CTab.ct 16)) (cv := .ref (CTab.ct 16)) (fun _ h => h) T.kt_FullSource (eo_var rfl (((((rp0.up g7).up g14).up g21).up g28).up g35))) (ea_cons (eo_isX (c := .ref (CTab.ct 17)) (cv := .ref (CTab.ct 17)) (fun _ h => h) T.kt_Broken (eo_var rfl (((((rp0.up g7).up g14).up g21).up g28).up g35))) ea_nil))))) h33 fun x36 v37 B38 H39 g42 r41 h40 => (q_ret (eo_op2 rv_add (eo_var rfl r41) (eo_lst (ea_cons (eo_isX (c := .ref (CTab.ct 18)) (cv := .ref (CTab.ct 18)) (fun _ h => h) T.kt_InUse (eo_var rfl ((((((rp0.up g7).up g14).up g21).up g28).up g35).up g42))) (ea_cons (eo_isX (c := .ref (CTab.ct 19)) (cv := .ref (CTab.ct 19)) (fun _ h => h) T.kt_NothingToUndo (eo_var rfl ((((((rp0.up g7).up g14).up g21).up g28).up g35).up g42))) ea_nil)))) h40 (((((((Go.refl sB).trans g7).trans g14).trans g21).trans g28).trans g35).trans g42) k)))))))
/-! _law_right -/
abbrev s_law_right : Stmt := top 36
abbrev N_law_right : List Str := ["_law_purse_here", "_law_x", "_law_pairs_here", "_law_others", "_law_kept_here", "_law_both", "_law_e", "_law_k", "_law_flags_here", "_law_is_first"]
def m_law_right_l2 (u123 : U) (kL130 : SM U) : List U → SM U
  | [] => kL130
  | u153 :: l154 => (bindS (pureS (consO (callO (a1 m_law_flags) (consO (some u153) (some []))) (consO (op2 ltV (some u123) (some (U.int 14))) (some [])))) fun xs => parS xs fun x167 x168 => (ifS (pureS (orO (testO (op2 neV2 (op2 countB (some x167) (some (U.bl true))) (some (U.int 1)))) (notO (testO (op2 getV (some x167) (some u123)))))) (pureS (some (U.bl false))) (ifS (pureS (testO (op2 neV2 (lstO (consO (op1 (isaX okX tabX_WrongValue) (some u153)) (consO (op1 (isaX okX tabX_NoAnswer) (some u153)) (some [])))) (lstO (consO (some x168) (consO (notV (some x168)) (some []))))))) (pureS (some (U.bl false))) (ifS (pureS (testO (op2 neV2 (lstO (consO (op1 (isaX okX tabX_ValueError) (some u153)) (consO (op1 (isaX okX tabX_ArithmeticError) (some u153)) (some [])))) (lstO (consO (some x168) (consO (notV (some x168)) (some []))))))) (pureS (some (U.bl false))) (m_law_right_l2 u123 kL130 l154)))))
def m_law_right_l1 (kL85 : SM U) : List U → SM U
  | [] => kL85
  | u109 :: l110 => (unpS u109 fun u123 u124 => (withK (m_law_right_l1 kL85 l110) fun kL130 => (bindS (pureS (iterO U.iter (some u124))) fun xs133 => m_law_right_l2 u123 kL130 xs133)))
theorem sc_law_right : FnScope N_law_right ["_law_purse_here"] (defScope s_law_right) := ⟨rfl, rfl, rfl, by decide +kernel, rfl, by decide +kernel, by decide +kernel⟩
def m_law_right : SM U := (bindS (bindS (pureS (some [])) fun xs => callM 0 (b0 m_law_thing) xs) fun x1 => (bindS (pureS (consO (callO (a1 m_law_firsts) (consO (some x1) (some []))) (consO (callO (a1 m_law_seconds) (consO (some x1) (some []))) (some [])))) fun xs => parS xs fun x10 x11 => (bindS (pureS (compO (fun u25 => (some true)) (fun u25 => (lstO (consO (op1 (excF okX "given") (op2 getV (some u25) (some (U.int 0)))) (consO (op1 (excF okX "given") (op2 getV (some u25) (some (U.int 1)))) (some []))))) (iterO U.iter (op2 addV (slO (some x10) (some none) (ptO (some (U.int 10)))) (slO (some x11) (ptO (some (U.int 2))) (ptO (some (U.int 3)))))))) fun x28 => (bindS (pureS (op2 addV (some x28) (compO (fun u40 => (some true)) (fun u40 => (lstO (consO (op1 (excF okX "index") (op2 getV (some u40) (some (U.int 0)))) (consO (op1 (excF okX "index") (op2 getV (some u40) (some (U.int 1)))) (some []))))) (iterO U.iter (op2 addV (slO (some x10) (ptO (some (U.int 10))) (some none)) (slO (some x11) (ptO (some (U.int 3))) (ptO (some (U.int 5))))))))) fun x43 => (bindS (pureS (op2 addV (some x43) (lstO (consO (compO (fun u55 => (some true)) (fun u55 => (op1 (excF okX "number") (some u55))) (iterO U.iter (op2 getV (some x11) (some (U.int 1))))) (some []))))) fun x58 => (ifS (pureS (orO (testO (op2 neV2 (callO (c1 reprD) (consO (some x58) (some []))) (callO (c1 reprD) (consO (op2 mulV (lstO (consO (lstO (consO (some x1) (consO (some x1) (some [])))) (some []))) (some (U.int 18))) (some []))))) (testO (op2 neV2 (compO (fun u70 => (some true)) (fun u70 => (op1 (excF okX "told") (some u70))) (iterO U.iter (op2 getV (some x11) (some (U.int 3))))) (lstO (consO (some (U.int 1)) (consO (some (U.int 1)) (some [])))))))) (pureS (some (U.bl false))) (withK (pureS (some (U.bl true))) fun kL85 => (bindS (pureS (enumO (op2 addV (some x10) (some x11)))) fun xs88 => m_law_right_l1 kL85 xs88))))))))
theorem ok_law_right (T : Tx w K mg base a d) : FnG P w K mg base CX0 4 (a 36) (d 36) ["_law_purse_here"] (spS (b0 m_law_right)) := by
  refine Fun.okG T.f_law_right sc_law_right (fun vs H Q E h => ?_) (fun cdv A outer s H vs Q E hgd hr h => ?_)
  · obtain ⟨B, p, u, R, rfl, _⟩ := ss0 h
    rfl
  · obtain ⟨B, p, u, R, rfl, sB, W, hM, k⟩ := ss0 h
    have nd := sc_law_right.nd
    refine ⟨_, (pss_cons (ps_set (i := 1) nd rfl (Or.inl rfl) (pe_call (ok_law_thing T) (hr.mono (by decide)) (by rfl) T.g_law_thing T.f_law_thing.kp T.bd_law_thing .nil pass0 (pa_cons (pv 0) pa_nil))) (pss_cons (ps_par (i := 2) (j := 3) (by rfl) nd rfl rfl (by decide) rfl rfl (pa_cons (pe_call (ok_law_firsts T) (hr.mono (by decide)) (by rfl) T.g_law_firsts T.f_law_firsts.kp T.bd_law_firsts .nil pass0 (pa_cons (pv 1) pa_nil)) (pa_cons (pe_call (ok_law_seconds T) (hr.mono (by decide)) (by rfl) T.g_law_seconds T.f_law_seconds.kp T.bd_law_seconds .nil pass0 (pa_cons (pv 1) pa_nil)) pa_nil)) (by rfl)) (pss_cons (ps_setLc (i := 4) (own := [("_law_both", 5)]) (g := gName 5) (tt := tYes) (by rfl) nd rfl rfl (sw_true rfl rfl rfl (by decide +kernel)) (pi_anyK (K := K) rfl (pe_op (op_addK (K := K) rfl) (pe_slice (sl_anyK (K := K) rfl) (pv 2) po_none (po_some pe_int)) (pe_slice (sl_anyK (K := K) rfl) (pv 3) (po_some pe_int) (po_some pe_int)))) (blkOk_by (own := [("_law_both", 5)]) (N := N_law_right) (sc := defScope s_law_right) (by decide +kernel)) (fun _ _ _ _ _ => pg_name (i := 5) nd rfl (Or.inl rfl)) (fun _ _ _ _ _ => pts_nil) (fun _ _ _ _ _ => (pe_lst (pa_cons (pe_xg (K := K) rfl (pe_ix (ix_anyK (K := K) rfl hr.units) (pv 5) pe_int (fun _ _ => rfl))) (pa_cons (pe_xg (K := K) rfl (pe_ix (ix_anyK (K := K) rfl hr.units) (pv 5) pe_int (fun _ _ => rfl))) pa_nil))))) (pss_cons (ps_set (i := 4) nd rfl (Or.inl rfl) (pe_op (op_addK (K := K) rfl) (pv 4) (pe_lc (own := [("_law_both", 5)]) (g := gName 5) (tt := tYes) (by rfl) nd (pi_anyK (K := K) rfl (pe_op (op_addK (K := K) rfl) (pe_slice (sl_anyK (K := K) rfl) (pv 2) (po_some pe_int) po_none) (pe_slice (sl_anyK (K := K) rfl) (pv 3) (po_some pe_int) (po_some pe_int)))) (blkOk_by (own := [("_law_both", 5)]) (N := N_law_right) (sc := defScope s_law_right) (by decide +kernel)) (fun _ _ _ _ _ => pg_name (i := 5) nd rfl (Or.inl rfl)) (fun _ _ _ _ _ => pts_nil) (fun _ _ _ _ _ => (pe_lst (pa_cons (pe_xg (K := K) rfl (pe_ix (ix_anyK (K := K) rfl hr.units) (pv 5) pe_int (fun _ _ => rfl))) (pa_cons (pe_xg (K := K) rfl (pe_ix (ix_anyK (K := K) rfl hr.units) (pv 5) pe_int (fun _ _ => rfl))) pa_nil))))))) (pss_cons (ps_set (i := 4) nd rfl (Or.inl rfl) (pe_op (op_addK (K := K) rfl) (pv 4) (pe_lst (pa_cons (pe_lc (own := [("_law_e", 6)]) (g := gName 6) (tt := tYes) (by rfl) nd (pi_anyK (K := K) rfl (pe_ix (ix_anyK (K := K) rfl hr.units) (pv 3) pe_int (fun _ _ => rfl))) (blkOk_by (own := [("_law_e", 6)]) (N := N_law_right) (sc := defScope s_law_right) (by decide +kernel)) (fun _ _ _ _ _ => pg_name (i := 6) nd rfl (Or.inl rfl)) (fun _ _ _ _ _ => pts_nil) (fun _ _ _ _ _ => (pe_xg (K := K) rfl (pv 6)))) pa_nil)))) (pss_cons (ps_if (PW.pt (pw_or (pt_cmpR (op_neU hr.units) (pe_callB (call_reprD (b := base) rfl hgd hr.units) (by rfl) T.b_repr bb_repr (pa_cons (pv 4) pa_nil)) (pe_callB (call_reprD (b := base) rfl hgd hr.units) (by rfl) T.b_repr bb_repr (pa_cons (pe_op op_mulU (pe_lst (pa_cons (pe_lst (pa_cons (pv 1) (pa_cons (pv 1) pa_nil))) pa_nil)) pe_int) pa_nil)) (nomark _)) (pw_or1 (pt_cmpR (op_neU hr.units) (pe_lc (own := [("_law_e", 6)]) (g := gName 6) (tt := tYes) (by rfl) nd (pi_anyK (K := K) rfl (pe_ix (ix_anyK (K := K) rfl hr.units) (pv 3) pe_int (fun _ _ => rfl))) (blkOk_by (own := [("_law_e", 6)]) (N := N_law_right) (sc := defScope s_law_right) (by decide +kernel)) (fun _ _ _ _ _ => pg_name (i := 6) nd rfl (Or.inl rfl)) (fun _ _ _ _ _ => pts_nil) (fun _ _ _ _ _ => (pe_xg (K := K) rfl (pv 6)))) (pe_lst (pa_cons pe_int (pa_cons pe_int pa_nil))) (nomark _))))) (pss_cons (ps_ret pe_bl) pss_nil) pss_nil) (pss_cons (ps_for PassesOwn.never rfl (pi_enumU (K := K) rfl (by rfl) T.b_enumerate (pe_op (op_addK (K := K) rfl) (pv 2) (pv 3))) (pg_tupK (K := K) rfl (by rfl) (pgs_cons (pg_name (i := 7) nd rfl (Or.inl rfl)) (pgs_cons (pg_name (i := 5) nd rfl (Or.inl rfl)) pgs_nil))) (pss_cons (ps_for PassesOwn.never rfl (pi_anyK (K := K) rfl (pv 5)) (pg_name (i := 6) nd rfl (Or.inl rfl)) (pss_cons (ps_par (i := 8) (j := 9) (by rfl) nd rfl rfl (by decide) rfl rfl (pa_cons (pe_call (ok_law_flags T) (hr.mono (by decide)) (by rfl) T.g_law_flags T.f_law_flags.kp T.bd_law_flags .nil pass0 (pa_cons (pv 6) pa_nil)) (pa_cons (pe_cmpR op_lt (pv 7) pe_int (nomark _)) pa_nil)) (by rfl)) (pss_cons (ps_if (PW.pt (pw_or (pt_cmpR (op_neU hr.units) (pe_countB (K := K) rfl (pv 8) (pa_cons pe_bl pa_nil)) pe_int (nomark _)) (pw_or1 (pt_not (pt_val (pe_ix (ix_anyK (K := K) rfl hr.units) (pv 8) (pv 7) (fun _ _ => rfl))))))) (pss_cons (ps_ret pe_bl) pss_nil) pss_nil) (pss_cons (ps_if (pt_cmpR (op_neU hr.units) (pe_lst (pa_cons (pe_callB (call_isX (K := K) rfl) (by rfl) T.b_isinstance bb_isinstance (pa_cons (pv 6) (pa_cons (pe_glob (v := .ref (CTab.ct 20)) (by rfl) T.g_WrongValue rfl) pa_nil))) (pa_cons (pe_callB (call_isX (K := K) rfl) (by rfl) T.b_isinstance bb_isinstance (pa_cons (pv 6) (pa_cons (pe_glob (v := .ref (CTab.ct 21)) (by rfl) T.g_NoAnswer rfl) pa_nil))) pa_nil))) (pe_lst (pa_cons (pv 9) (pa_cons (pe_not (pv 9)) pa_nil))) (nomark _)) (pss_cons (ps_ret pe_bl) pss_nil) pss_nil) (pss_cons (ps_if (pt_cmpR (op_neU hr.units) (pe_lst (pa_cons (pe_callB (call_isX (K := K) rfl) (by rfl) T.b_isinstance bb_isinstance (pa_cons (pv 6) (pa_cons (pe_bltn (v := .ty "ValueError") (by rfl) T.b_ValueError bb_ValueError rfl) pa_nil))) (pa_cons (pe_callB (call_isX (K := K) rfl) (by rfl) T.b_isinstance bb_isinstance (pa_cons (pv 6) (pa_cons (pe_bltn (v := .ty "ArithmeticError") (by rfl) T.b_ArithmeticError bb_ArithmeticError rfl) pa_nil))) pa_nil))) (pe_lst (pa_cons (pv 9) (pa_cons (pe_not (pv 9)) pa_nil))) (nomark _)) (pss_cons (ps_ret pe_bl) pss_nil) pss_nil) pss_nil))))) pss_nil)) (pss_cons (ps_ret pe_bl) pss_nil)))))))), ?_⟩
    exact (q_asgS W (es_callM (j := 0) rfl rfl (eas_of (H := H) ea_nil)) hM fun x1 v2 B3 H4 us7 W8 s9 r6 h5 => (q_parS W8 (eas_of (H := H) (ea_cons (eo_call (ea_cons (eo_var rfl r6) ea_nil)) (ea_cons (eo_call (ea_cons (eo_var rfl r6) ea_nil)) ea_nil))) h5 fun x10 x11 v12 v13 B14 H15 us19 W20 s21 r16 r17 h18 => (q_asgS W20 (es_of (H := H) (eo_lc (ei_any (eo_op2 rv_add (eo_slice (eo_var rfl r16) ep_no (ep_of eo_int)) (eo_slice (eo_var rfl r17) (ep_of eo_int) (ep_of eo_int)))) (fun _ => rfl) (fun u25 v26 B23 H24 g22 r27 => et_yes) (fun u25 v26 B23 H24 g22 r27 => (eo_lst (ea_cons (eo_xg T.nf_given (eo_op2 rv_get (eo_var rfl r27) eo_int)) (ea_cons (eo_xg T.nf_given (eo_op2 rv_get (eo_var rfl r27) eo_int)) ea_nil)))))) h18 fun x28 v29 B30 H31 us34 W35 s36 r33 h32 => (q_asgS W35 (es_of (H := H) (eo_op2 rv_add (eo_var rfl r33) (eo_lc (ei_any (eo_op2 rv_add (eo_slice (eo_var rfl (r16.sm s36)) (ep_of eo_int) ep_no) (eo_slice (eo_var rfl (r17.sm s36)) (ep_of eo_int) (ep_of eo_int)))) (fun _ => rfl) (fun u40 v41 B38 H39 g37 r42 => et_yes) (fun u40 v41 B38 H39 g37 r42 => (eo_lst (ea_cons (eo_xg T.nf_index (eo_op2 rv_get (eo_var rfl r42) eo_int)) (ea_cons (eo_xg T.nf_index (eo_op2 rv_get (eo_var rfl r42) eo_int)) ea_nil))))))) h32 fun x43 v44 B45 H46 us49 W50 s51 r48 h47 => (q_asgS W50 (es_of (H := H) (eo_op2 rv_add (eo_var rfl r48) (eo_lst (ea_cons (eo_lc (ei_any (eo_op2 rv_get (eo_var rfl ((r17.sm s36).sm s51)) eo_int)) (fun _ => rfl) (fun u55 v56 B53 H54 g52 r57 => et_yes) (fun u55 v56 B53 H54 g52 r57 => (eo_xg T.nf_number (eo_var rfl r57)))) ea_nil)))) h47 fun x58 v59 B60 H61 us64 W65 s66 r63 h62 => (q_ifS W65 (ets_of (H := H) (et_or (et_test (eo_op2 rv_ne (eo_cb' (rc_reprD T.sm) (ea_cons (eo_var rfl r63) ea_nil)) (eo_cb' (rc_reprD T.sm) (ea_cons (eo_op2 rv_mul (eo_lst (ea_cons (eo_lst (ea_cons (eo_var rfl ((((r6.sm s21).sm s36).sm s51).sm s66)) (ea_cons (eo_var rfl ((((r6.sm s21).sm s36).sm s51).sm s66)) ea_nil))) ea_nil)) eo_int) ea_nil)))) (et_test (eo_op2 rv_ne (eo_lc (ei_any (eo_op2 rv_get (eo_var rfl (((r17.sm s36).sm s51).sm s66)) eo_int)) (fun _ => rfl) (fun u70 v71 B68 H69 g67 r72 => et_yes) (fun u70 v71 B68 H69 g67 r72 => (eo_xg T.nf_told (eo_var rfl r72)))) (eo_lst (ea_cons eo_int (ea_cons eo_int ea_nil))))))) h62 (fun B73 H74 us79 W80 s81 h75 => (q_retS W80 (es_of (H := H) eo_bl) h75 k)) (fun B76 H77 us82 W83 s84 h78 => (q_withS h78 fun kL85 ekL86 h87 => q_forS W83 (eis_of (H := H) (ei_enum (eo_op2 rv_add (eo_var rfl ((((r16.sm s36).sm s51).sm s66).sm s84)) (eo_var rfl ((((r17.sm s36).sm s51).sm s66).sm s84))))) h87 fun xs88 B89 H90 us92 W93 s94 h91 => ⟨fun l95 sg96 B97 H98 => ∃ (o99 : Option V) (o100 : Option V) (o101 : Option V) (o102 : Option V) (o103 : Option V) (o104 : Option V) (o105 : Option V) (o106 : Option V) (o107 : Option V) (us108 : List U), sg96 = [some (.ref p), o99, o100, o101, o102, o103, o104, o105, o106, o107] ∧ Same B89 B97 ∧ Wh (bsM B H p) B97 H98 [p] us108 ∧ m_law_right_l1 kL85 l95 us108 = some R, ⟨_, _, _, _, _, _, _, _, _, us92, rfl, Same.refl _, W93, h91⟩, fun _ _ _ _ ⟨_, _, _, _, _, _, _, _, _, _, _, sX, WX, _⟩ => ⟨sX, WX.s⟩, fun u109 l110 v111 sg234 B112 H113 B114 H115 hR g116 r117 => (by obtain ⟨_, _, _, _, _, _, _, _, _, us121, rfl, s119, W122, h120⟩ := hR; exact g_twoS g116.bh r117 h120 fun u123 u124 v125 v126 r127 r128 h129 => (q_withS h129 fun kL130 ekL131 h132 => q_forS (W122.go g116) (eis_of (H := H) (ei_any (eo_var rfl r128))) h132 fun xs133 B134 H135 us137 W138 s139 h136 => ⟨fun l140 sg141 B142 H143 => ∃ (o144 : Option V) (o145 : Option V) (o146 : Option V) (o147 : Option V) (o148 : Option V) (o149 : Option V) (o150 : Option V) (o151 : Option V) (us152 : List U), sg141 = [some (.ref p), o144, o145, o146, o147, o148, o149, some v125, o150, o151] ∧ Same B134 B142 ∧ Wh (bsM B H p) B142 H143 [p] us152 ∧ m_law_right_l2 u123 kL130 l140 us152 = some R, ⟨_, _, _, _, _, _, _, _, us137, rfl, Same.refl _, W138, h136⟩, fun _ _ _ _ ⟨_, _, _, _, _, _, _, _, _, _, sX, WX, _⟩ => ⟨sX, WX.s⟩, fun u153 l154 v155 sg224 B156 H157 B158 H159 hR g160 r161 => (by obtain ⟨_, _, _, _, _, _, _, _, us165, rfl, s163, W166, h164⟩ := hR; exact (q_parS (W166.go g160) (eas_of (H := H) (ea_cons (eo_call (ea_cons (eo_var rfl r161) ea_nil)) (ea_cons (eo_op2 rv_lt (eo_var rfl (((r127.sm s139).sm s163).up g160)) eo_int) ea_nil))) h164 fun x167 x168 v169 v170 B171 H172 us176 W177 s178 r173 r174 h175 => (q_ifS W177 (ets_of (H := H) (et_or (et_test (eo_op2 rv_ne (eo_countB (eo_var rfl r173) eo_bl) eo_int)) (et_not (et_B (eo_op2 rv_get (eo_var rfl r173) (eo_var rfl ((((r127.sm s139).sm s163).up g160).sm s178))))))) h175 (fun B179 H180 us185 W186 s187 h181 => (q_retS W186 (es_of (H := H) eo_bl) h181 k)) (fun B182 H183 us188 W189 s190 h184 => (q_ifS W189 (ets_of (H := H) (et_test (eo_op2 rv_ne (eo_lst (ea_cons (eo_isX (c := .ref (CTab.ct 20)) (cv := .ref (CTab.ct 20)) (fun _ h => h) T.kt_WrongValue (eo_var rfl ((r161.sm s178).sm s190))) (ea_cons (eo_isX (c := .ref (CTab.ct 21)) (cv := .ref (CTab.ct 21)) (fun _ h => h) T.kt_NoAnswer (eo_var rfl ((r161.sm s178).sm s190))) ea_nil))) (eo_lst (ea_cons (eo_var rfl (r174.sm s190)) (ea_cons (eo_not (eo_var rfl (r174.sm s190))) ea_nil)))))) h184 (fun B191 H192 us197 W198 s199 h193 => (q_retS W198 (es_of (H := H) eo_bl) h193 k)) (fun B194 H195 us200 W201 s202 h196 => (q_ifS W201 (ets_of (H := H) (et_test (eo_op2 rv_ne (eo_lst (ea_cons (eo_isX (c := .ty "ValueError") (cv := .type "ValueError") (fun _ h => h) T.kt_ValueError (eo_var rfl (((r161.sm s178).sm s190).sm s202))) (ea_cons (eo_isX (c := .ty "ArithmeticError") (cv := .type "ArithmeticError") (fun _ h => h) T.kt_ArithmeticError (eo_var rfl (((r161.sm s178).sm s190).sm s202))) ea_nil))) (eo_lst (ea_cons (eo_var rfl ((r174.sm s190).sm s202)) (ea_cons (eo_not (eo_var rfl ((r174.sm s190).sm s202))) ea_nil)))))) h196 (fun B203 H204 us209 W210 s211 h205 => (q_retS W210 (es_of (H := H) eo_bl) h205 k)) (fun B206 H207 us212 W213 s214 h208 => ⟨_, _, _, _, _, _, _, _, _, _, rfl, (((((s163.trans g160.b).trans s178).trans s190).trans s202).trans s214), W213, h208⟩)))))))), fun sg220 B221 H222 hR => (by obtain ⟨_, _, _, _, _, _, _, _, us218, rfl, s216, W219, h217⟩ := hR; have h223 : kL130 us218 = some R := h217; subst ekL131; exact ⟨_, _, _, _, _, _, _, _, _, _, _, rfl, (((s119.trans g116.b).trans s139).trans s216), W219, h223⟩)⟩)), fun sg230 B231 H232 hR => (by obtain ⟨_, _, _, _, _, _, _, _, _, us228, rfl, s226, W229, h227⟩ := hR; have h233 : kL85 us228 = some R := h227; subst ekL86; exact (q_retS W229 (es_of (H := H) eo_bl) h233 k))⟩))))))))
/-! law -/
abbrev s_law : Stmt := top 37
abbrev N_law : List Str := ["_law_script", "_law_limits_here", "_law_spot"]
theorem sc_law : FnScope N_law ["_law_script"] (defScope s_law) := ⟨rfl, rfl, rfl, by decide +kernel, rfl, by decide +kernel, by decide +kernel⟩
def m_lawS (p0 : U) : SM U := (bindS (pureS (lstO (consO (some (U.int 40)) (consO (some (U.int 12)) (consO (some (U.int 1000000000000)) (consO (some (U.int 2000)) (consO (some (U.int 8)) (consO (some (U.int 8)) (some []))))))))) fun x1 => (ifS (pureS (testO (op2 neV2 (some x1) (lstO (consO (some (U.int 40)) (consO (some (U.int 12)) (consO (op2 powV (some (U.int 10)) (some (U.int 12))) (consO (some (U.int 2000)) (consO (some (U.int 8)) (consO (some (U.int 8)) (some []))))))))))) (pureS (some (U.bl false))) (callS (c1 allV) (consS (keepN (lcS (fun u25 => (pureS (some true))) (fun u25 => (callF (b0 m_law_right) (callS (a2 m_law_purse) (pureS (consO (some p0) (consO (some u25) (some []))))) (pureS (some [])))) (pureS (rngO rng1 (consO (callO maxA (consO (some (U.int 2)) (consO (callO minU (consO (callO lenV (consO (some p0) (some []))) (consO (some (U.int 4)) (some [])))) (some [])))) (some [])))))) (pureS (some []))))))
def m_law (p0 : U) : Option U := runS (m_lawS p0)
theorem ok_law (T : Tx w K mg base a d) : FnG P w K mg base CX0 5 (a 37) (d 37) ["_law_script"] (spU (a1 m_law)) := by
  refine Fun.okG T.f_law sc_law (fun vs H Q E h => ?_) (fun cdv A outer s H vs Q E hgd hr h => ?_)
  · obtain ⟨B, p0, vp0, r, rfl, _⟩ := sp1 h
    rfl
  · obtain ⟨B, p0, vp0, r, rfl, sB, rp0, hM, k⟩ := sp1 h
    have nd := sc_law.nd
    obtain ⟨R, hM2, rfl⟩ := runS_some hM
    clear hM
    have k := fun v B2 H2 ps2 (W : Wh (bsU B H) B2 H2 ps2 R.2) r => k v B2 H2 W.pure r
    refine ⟨_, (pss_cons (ps_set (i := 1) nd rfl (Or.inl rfl) (pe_lst (pa_cons (pe_glob (v := .int 40) (by rfl) T.c_MOST_COPIES.choose_spec ⟨_, rfl⟩) (pa_cons (pe_glob (v := .int 12) (by rfl) T.c_MOST_TOLD.choose_spec ⟨_, rfl⟩) (pa_cons (pe_glob (v := .int 1000000000000) (by rfl) T.c_MOST_WEIGHT.choose_spec ⟨_, rfl⟩) (pa_cons (pe_glob (v := .int 2000) (by rfl) T.c_MOST_WALKED.choose_spec ⟨_, rfl⟩) (pa_cons (pe_glob (v := .int 8) (by rfl) T.c_MOST_OFFERS.choose_spec ⟨_, rfl⟩) (pa_cons (pe_glob (v := .int 8) (by rfl) T.c_MOST_FREED.choose_spec ⟨_, rfl⟩) pa_nil)))))))) (pss_cons (ps_if (pt_cmpR (op_neU hr.units) (pv 1) (pe_lst (pa_cons pe_int (pa_cons pe_int (pa_cons (pe_op op_pow pe_int pe_int) (pa_cons pe_int (pa_cons pe_int (pa_cons pe_int pa_nil))))))) (nomark _)) (pss_cons (ps_ret pe_bl) pss_nil) pss_nil) (pss_cons (ps_ret (pe_callB (cr_allK (K := K) rfl rfl) (by rfl) T.b_all bb_all (pa_cons (pe_lc (own := [("_law_spot", 2)]) (g := gName 2) (tt := tYes) (by rfl) nd (pi_range1 (by rfl) T.b_range (pa_cons (pe_callB (call_maxK (K := K) rfl rfl) (by rfl) T.b_max bb_max (pa_cons pe_int (pa_cons (pe_callB (call_min2 rfl) (by rfl) T.b_min bb_min (pa_cons (pe_callB (call_lenK (K := K) rfl) (by rfl) T.b_len bb_len (pa_cons (pv 0) pa_nil)) (pa_cons pe_int pa_nil))) pa_nil))) pa_nil)) (blkOk_by (own := [("_law_spot", 2)]) (N := N_law) (sc := defScope s_law) (by decide +kernel)) (fun _ _ _ _ _ => pg_name (i := 2) nd rfl (Or.inl rfl)) (fun _ _ _ _ _ => pts_nil) (fun _ _ _ _ _ => (pe_callG (ok_law_right T) hgd (hr.mono (by decide)) (by rfl) T.g_law_right T.f_law_right.kp T.bd_law_right .nil pass0 (pa_cons (pe_call (ok_law_purse T) (hr.mono (by decide)) (by rfl) T.g_law_purse T.f_law_purse.kp T.bd_law_purse .nil pass0 (pa_cons (pv 0) (pa_cons (pv 2) pa_nil))) pa_nil)))) pa_nil))) pss_nil))), ?_⟩
    exact (q_asgS (wh_pure sB) (es_of (H := H) (eo_lst (ea_cons eo_int (ea_cons eo_int (ea_cons eo_int (ea_cons eo_int (ea_cons eo_int (ea_cons eo_int ea_nil)))))))) hM2 fun x1 v2 B3 H4 us7 W8 s9 r6 h5 => (q_ifS W8 (ets_of (H := H) (et_test (eo_op2 rv_ne (eo_var rfl r6) (eo_lst (ea_cons eo_int (ea_cons eo_int (ea_cons (eo_op2 rv_pow eo_int eo_int) (ea_cons eo_int (ea_cons eo_int (ea_cons eo_int ea_nil)))))))))) h5 (fun B10 H11 us16 W17 s18 h12 => (q_retS W17 (es_of (H := H) eo_bl) h12 k)) (fun B13 H14 us19 W20 s21 h15 => (q_retS W20 (es_cb rc_all (eas_cons (es_ofN (en_lc (eis_of (H := H) (ei_rng1 (ea_cons (eo_cb' rc_maxA (ea_cons eo_int (ea_cons (eo_cb' rc_min (ea_cons (eo_cb' rc_len (ea_cons (eo_var rfl ((rp0.sm s9).sm s21)) ea_nil)) (ea_cons eo_int ea_nil))) ea_nil))) ea_nil))) (fun _ => rfl) (fun u25 v26 B23 H24 g22 r27 => (ets_of (H := H) et_yes)) (fun u25 v26 B23 H24 g22 r27 => (es_callF (H := H) (en_call (eas_of (H := H) (ea_cons (eo_var rfl (((rp0.sm s9).sm s21).upA g22)) (ea_cons (eo_var rfl r27) ea_nil)))) ea_nil)))) eas_nil)) h15 k))))
end
end K01
set_option Elab.async false
set_option linter.all false
set_option maxRecDepth 100000
set_option maxHeartbeats 2000000
namespace K01
open PySem L2 Dn PyProof.Rows
/-- a purse -/
def Urn (u : U) : Prop := ∃ a b : Int, u = .frl [.int a, .int b]
theorem Urn.own {u : U} (h : Urn u) : u.own = true := by obtain ⟨a, b, rfl⟩ := h; rfl
theorem Urn.plc {u : U} (h : Urn u) : u.plc = true := by obtain ⟨a, b, rfl⟩ := h; rfl
theorem draw_ok {u : U} {n : Int} (hu : Urn u) (h0 : 0 < n) (h1 : n < 1073741824) : ∃ r u', b1 m_law_draw u [.int n] = some (.int r, u') ∧ Urn u' ∧ 0 ≤ r ∧ r < n := by
  obtain ⟨a, b, rfl⟩ := hu
  show ∃ r u', finS (m_law_draw (.int n) [.frl [.int a, .int b]]) = some (.int r, u') ∧ Urn u' ∧ 0 ≤ r ∧ r < n
  have e1 : ∀ b : Int, mulV (.int b) (.int 45991) = some (.int (b * 45991)) := fun b => mulV_r (by decide)
  have e3 : ∀ b : Int, modV (.int b) (.int 2147483647) = some (.int (b % 2147483647)) := fun b => modV_i (by decide)
  have e4 : ∀ b : Int, fdivV (.int b) (.int 1024) = some (.int (b / 1024)) := fun b => fdivV_i (by decide)
  have e5 : ∀ b : Int, modV (.int b) (.int n) = some (.int (b % n)) := fun b => modV_i h0
  have e6 : ∀ b : Int, divmodU [.int b, .int n] = some (.tup [.int (b / n), .int (b % n)]) := fun b => divmod_i ⟨h0, h1⟩
  have hr : ∀ i : Int, 0 ≤ i % n ∧ i % n < n := fun i => ⟨Int.emod_nonneg i (by omega), Int.emod_lt_of_pos i h0⟩
  by_cases ha : 0 < a
  · refine ⟨a % n, .frl [.int (a / n), .int b], ?_, ⟨_, _, rfl⟩, (hr a).1, (hr a).2⟩
    unfold m_law_draw
    simp [bindS, opS, lockO, U.own, U.pl, getV, atI, ixN, setLS, ifS, testS, callS, consS, ha, e6, unpS, unp2, finS, U.asB]
  · refine ⟨((b * 45991 + 40503) % 2147483647) / 1024 % n, .frl [.int a, .int ((b * 45991 + 40503) % 2147483647)], ?_, ⟨_, _, rfl⟩, (hr _).1, (hr _).2⟩
    unfold m_law_draw
    simp [bindS, opS, lockO, U.own, U.pl, getV, atI, ixN, setLS, ifS, testS, callS, consS, ha, e1, e3, e4, e5, unpS, unp2, finS, U.asB]
theorem draw_at {u : U} {t : List U} {n : Int} (hu : Urn u) (h0 : 0 < n) (h1 : n < 1073741824) : ∃ r u', callM 0 (b1 m_law_draw) [.int n] (u :: t) = some (.int r, u' :: t) ∧ Urn u' ∧ 0 ≤ r ∧ r < n := by
  obtain ⟨r, u', e, h⟩ := draw_ok hu h0 h1
  exact ⟨r, u', callM_s rfl hu.own e, h⟩
/-! ### the purse -/
theorem cut_ints {ns : List Int} {lo hi : Option Int} : cutU (ns.map U.int) lo hi = ((ns.drop (HT.sIx ns.length 0 lo)).take (HT.sIx ns.length ns.length hi - HT.sIx ns.length 0 lo)).map U.int := by
  unfold cutU
  rw [List.length_map, List.map_take, List.map_drop]
theorem purse_l1 {c : U} {k : U → SM U} : ∀ (ns : List Int) (s : Int), ∃ s', m_law_purse_l1 c k (ns.map U.int) (.int s) [] = k (.int s') []
  | [], s => ⟨s, rfl⟩
  | n :: ns, s => by
    obtain ⟨s', e⟩ := purse_l1 (c := c) (k := k) ns ((s * 40692 + n % 2147483647 + 101) % 2147483647)
    refine ⟨s', ?_⟩
    rw [← e]
    have e1 : op2 mulV (some (U.int s)) (some (U.int 40692)) = some (.int (s * 40692)) := mulV_r (by decide)
    show bindS (pureS (op2 modV (callO (c1 intV) (consO (op2 addV (op2 addV (op2 mulV (some (U.int s)) (some (U.int 40692))) (op2 modV (callO (c1 intV) (consO (some (U.int n)) (some []))) (some (U.int 2147483647)))) (some (U.int 101))) (some []))) (some (U.int 2147483647)))) (fun x56 => (m_law_purse_l1 c k (ns.map U.int) (x56))) [] = _
    rw [consO_s, callO_s, intV_i, e1, op2_s, modV_i (by decide), op2_s, addV_i, op2_s, addV_i, consO_s, callO_s, intV_i, op2_s, modV_i (by decide), bindS_pure]
theorem purse_ok {ns : List Int} {t : Nat} (hl : ns.length ≤ 63) : ∃ u, m_law_purse (.frl (ns.map U.int)) (.int t) = some u ∧ Urn u := by
  have el : callO lenV (consO (some (U.frl (ns.map U.int))) (some [])) = some (.int ns.length) := by simp [lenV]
  obtain ⟨c, ec⟩ : ∃ c : Int, ifO (testO (op2 ltV (some (U.int t)) (callO lenV (consO (some (U.frl (ns.map U.int))) (some []))))) (op2 getV (some (U.frl (ns.map U.int))) (some (U.int t))) (op2 mulV (some (U.int 6373)) (op2 addV (some (U.int t)) (some (U.int 5)))) = some (.int c) := by
    rw [el, op2_s, ltV_i, testO_s, ifO_s]
    split
    · rename_i ht
      have ht : (t : Int) < ns.length := by simpa using ht
      have ht2 : t < ns.length := by omega
      have : op2 getV (some (U.frl (ns.map U.int))) (some (U.int t)) = some (.int ns[t]) := atI_nat' (by simp [ht2])
      rw [this]
      exact ⟨_, rfl⟩
    · rw [op2_s, addV_i, op2_s, mulV_l (by decide)]
      exact ⟨_, rfl⟩
  have es : slO (some (U.frl (ns.map U.int))) (some none) (ptO (some (U.int 5))) = some (.lst (((ns.drop (HT.sIx ns.length 0 none)).take (HT.sIx ns.length ns.length (some 5) - HT.sIx ns.length 0 none)).map U.int)) := by
    show some (U.lst (cutU (ns.map U.int) none (some 5))) = _
    rw [cut_ints]
  have hms : ((ns.drop (HT.sIx ns.length 0 none)).take (HT.sIx ns.length ns.length (some 5) - HT.sIx ns.length 0 none)).length ≤ 63 := by
    rw [List.length_take, List.length_drop]; omega
  generalize (ns.drop (HT.sIx ns.length 0 none)).take (HT.sIx ns.length ns.length (some 5) - HT.sIx ns.length 0 none) = ms at es hms
  have hlim : lim = 100000 := rfl
  have ea : op2 addV (some (U.lst (ms.map U.int))) (lstO (consO (some (U.int c)) (some []))) = some (.lst ((ms ++ [c]).map U.int)) := by
    show (if (ms.map U.int).length + [U.int c].length ≤ lim then some (U.lst (ms.map U.int ++ [.int c])) else none) = _
    rw [if_pos (by simp; omega)]
    simp
  have ep : op2 powV (some (U.int 10)) (some (U.int 18)) = some (.int (10 ^ 18)) := by
    show (if (0 : Int) ≤ 18 ∧ (18 : Int) ≤ 1000000 ∧ (10 : Int).natAbs < 2 ^ 64 then some (U.int (10 ^ (18 : Int).toNat)) else none) = _
    rw [if_pos (by decide)]
    rfl
  obtain ⟨g, eg⟩ : ∃ g : Int, ifO (testO (op2 geV (callO (c1 absU) (consO (some (U.int c)) (some []))) (some (U.int (10 ^ 18))))) (callO (c1 absU) (consO (some (U.int c)) (some []))) (some (U.int 0)) = some (.int g) := by
    have : ∃ z : Int, callO (c1 absU) (consO (some (U.int c)) (some [])) = some (.int z) := ⟨_, rfl⟩
    obtain ⟨z, ez⟩ := this
    rw [ez, op2_s, geV_i, testO_s, ifO_s]
    split
    · exact ⟨_, rfl⟩
    · exact ⟨_, rfl⟩
  obtain ⟨s', e2⟩ := purse_l1 (c := .int c) (k := fun x68 => (nlstS (pureS (consO (ifO (testO (op2 geV (callO (c1 absU) (consO (some (U.int c)) (some []))) (op2 powV (some (U.int 10)) (some (U.int 18))))) (callO (c1 absU) (consO (some (U.int c)) (some []))) (some (U.int 0))) (consO (some x68) (some [])))))) (ms ++ [c]) (941 + t)
  refine ⟨.frl [.int g, .int s'], ?_, ⟨_, _, rfl⟩⟩
  have e4 : m_law_purseS (.frl (ns.map U.int)) (.int t) [] = some (.frl [.int g, .int s'], []) := by
    refine Eq.trans ?_ (e2.trans ?_)
    · unfold m_law_purseS
      rw [ec, bindS_pure, op2_s, addV_i, bindS_pure, withK_s, es, ea]
      rfl
    · show nlstS _ _ = _
      rw [ep, eg]
      rfl
  show (m_law_purseS (.frl (ns.map U.int)) (.int t) []).map Prod.fst = _
  rw [e4]
  rfl
theorem lcSL_const {p : U → SM Bool} {f : U → SM U} {v : U} (hp : ∀ x us, p x us = some (true, us)) : ∀ (xs : List U) (us : List U), (∀ x ∈ xs, f x us = some (v, us)) → lcSL p f xs us = some (xs.map fun _ => v, us)
  | [], us, _ => rfl
  | x :: xs, us, h => by
    have ih := lcSL_const hp xs us fun y hy => h y (List.mem_cons_of_mem _ hy)
    unfold lcSL
    rw [bindS_s (hp x us)]
    simp only [if_true]
    rw [bindS_s (h x (List.mem_cons_self ..)), bindS_s ih]
    rfl
/-! ### each of the thirteen values -/
def tailK (x1 : U) : SM U := (bindS (pureS (consO (callO (a1 m_law_firsts) (consO (some x1) (some []))) (consO (callO (a1 m_law_seconds) (consO (some x1) (some []))) (some [])))) fun xs => parS xs fun x10 x11 => (bindS (pureS (compO (fun u25 => (some true)) (fun u25 => (lstO (consO (op1 (excF okX "given") (op2 getV (some u25) (some (U.int 0)))) (consO (op1 (excF okX "given") (op2 getV (some u25) (some (U.int 1)))) (some []))))) (iterO U.iter (op2 addV (slO (some x10) (some none) (ptO (some (U.int 10)))) (slO (some x11) (ptO (some (U.int 2))) (ptO (some (U.int 3)))))))) fun x28 => (bindS (pureS (op2 addV (some x28) (compO (fun u40 => (some true)) (fun u40 => (lstO (consO (op1 (excF okX "index") (op2 getV (some u40) (some (U.int 0)))) (consO (op1 (excF okX "index") (op2 getV (some u40) (some (U.int 1)))) (some []))))) (iterO U.iter (op2 addV (slO (some x10) (ptO (some (U.int 10))) (some none)) (slO (some x11) (ptO (some (U.int 3))) (ptO (some (U.int 5))))))))) fun x43 => (bindS (pureS (op2 addV (some x43) (lstO (consO (compO (fun u55 => (some true)) (fun u55 => (op1 (excF okX "number") (some u55))) (iterO U.iter (op2 getV (some x11) (some (U.int 1))))) (some []))))) fun x58 => (ifS (pureS (orO (testO (op2 neV2 (callO (c1 reprD) (consO (some x58) (some []))) (callO (c1 reprD) (consO (op2 mulV (lstO (consO (lstO (consO (some x1) (consO (some x1) (some [])))) (some []))) (some (U.int 18))) (some []))))) (testO (op2 neV2 (compO (fun u70 => (some true)) (fun u70 => (op1 (excF okX "told") (some u70))) (iterO U.iter (op2 getV (some x11) (some (U.int 3))))) (lstO (consO (some (U.int 1)) (consO (some (U.int 1)) (some [])))))))) (pureS (some (U.bl false))) (withK (pureS (some (U.bl true))) fun kL85 => (bindS (pureS (enumO (op2 addV (some x10) (some x11)))) fun xs88 => m_law_right_l1 kL85 xs88)))))))
theorem right_eq : m_law_right = (bindS (bindS (pureS (some [])) fun xs => callM 0 (b0 m_law_thing) xs) fun x1 => tailK x1) := rfl
def PM (F : SM U) : Prop := ∀ us, F us = (F []).map fun r => (r.1, us)
theorem PM.pure {o : Option U} : PM (pureS o) := fun us => by cases o <;> rfl
theorem PM.bind {α : Type} {o : Option α} {k : α → SM U} (h : ∀ x, PM (k x)) : PM (bindS (pureS o) k) := fun us => by
  cases o with
  | none => rfl
  | some x => exact h x us
theorem PM.ife {o : Option Bool} {F G : SM U} (hF : PM F) (hG : PM G) : PM (ifS (pureS o) F G) := fun us => by
  cases o with
  | none => rfl
  | some b => cases b with
    | true => exact hF us
    | false => exact hG us
theorem PM.par {xs : List U} {k : U → U → SM U} (h : ∀ x y, PM (k x y)) : PM (parS xs k) := by
  unfold parS
  split
  · exact h _ _
  · exact PM.pure
theorem PM.unp {u : U} {k : U → U → SM U} (h : ∀ x y, PM (k x y)) : PM (unpS u k) := fun us => by
  unfold unpS
  cases unp2 u with
  | none => rfl
  | some ab => exact h ab.1 ab.2 us
theorem PM.l2 {u : U} {k : SM U} (h : PM k) : ∀ l, PM (m_law_right_l2 u k l)
  | [] => h
  | x :: l => by
    have ih := PM.l2 (u := u) h l
    rw [m_law_right_l2]
    repeat' (first | exact ih | exact PM.pure | refine PM.ife ?_ ?_ | refine PM.par fun _ _ => ?_ | refine PM.bind fun _ => ?_)
theorem PM.l1 {k : SM U} (h : PM k) : ∀ l, PM (m_law_right_l1 k l)
  | [] => h
  | x :: l => by
    have ih := PM.l1 h l
    rw [m_law_right_l1]
    refine PM.unp fun _ _ => ?_
    rw [withK_s]
    exact PM.bind fun _ => PM.l2 ih _
theorem tail_pm (x : U) : PM (tailK x) := by
  unfold tailK
  repeat' (first | exact PM.pure | refine PM.ife ?_ ?_ | refine PM.par fun _ _ => ?_ | exact PM.l1 PM.pure _ | (rw [withK_s]; refine PM.bind fun _ => ?_) | refine PM.bind fun _ => ?_)
def things : List U := [U.non, U.bl true, U.int 0, U.int (-(10 ^ 30)), U.str "", U.str "a", U.str "a; b a", U.tup [], U.tup [.str "a", .tup [.str "b", .int 1]], U.lst [], U.lst [.lst [.str "a"]], U.dic [], U.dic [(Sum.inr "a", .tup [])]]
def rep18 (x : U) : U := .lst (List.replicate 18 (.lst [x, x]))
def P10 (x : U) : List U := match m_law_firsts x with | some (.lst l) => l | _ => []
def P11 (x : U) : List U := match m_law_seconds x with | some (.lst l) => l | _ => []
def enumL (x : U) : List U := match enumO (op2 addV (some (.lst (P10 x))) (some (.lst (P11 x)))) with | some l => l | none => []
theorem loop_ok (x : U) : m_law_right_l1 (pureS (some (U.bl true))) (enumL x) [] = some (.bl true, []) := by kernel_rfl
theorem tail_eq (x : U) : tailK x [] = ifS (pureS (orO (testO (op2 neV2 (reprD (rep18 x)) (reprD (rep18 x)))) (some false))) (pureS (some (U.bl false))) (m_law_right_l1 (pureS (some (U.bl true))) (enumL x)) [] := by kernel_rfl
theorem ne_self (s : Str) : neV2 (.str s) (.str s) = some (.bl false) := by
  show (eqK (.str s) (.str s)).map (fun b => U.bl (!b)) = _
  simp [eqK]
def _root_.Dn.U.isGreat : U → Bool
  | .int i => i == -(10 ^ 30)
  | _ => false
def chk (x : U) : Bool := match (rep18 x).pyd with
  | some d => d.showable && (decide (d.depth ≤ 40) && (d.leavesShort 40 && decide (42 * d.weight ≤ 100000)))
  | none => false
theorem chk_all : things.all (fun x => chk x || x.isGreat) = true := by decide +kernel
theorem shown_rep (e : PyData) : ∀ n, PyData.shownAll (List.replicate n e) = List.replicate n e.shown
  | 0 => by simp [PyData.shownAll]
  | n + 1 => by rw [List.replicate_succ, List.replicate_succ, PyData.shownAll, shown_rep e n]
theorem great_int : (PyData.int (-(10 ^ 30))).shown.length ≤ 40 := by decide +kernel
theorem great_len : (PyData.list (List.replicate 18 (.list [.int (-(10 ^ 30)), .int (-(10 ^ 30))]))).shown.length ≤ 100000 := by
  have h1 := great_int
  have h2 : (PyData.list [.int (-(10 ^ 30)), .int (-(10 ^ 30))]).shown.length ≤ 87 := by
    rw [PyData.shown]
    refine Nat.le_trans (listText_len_le _) ?_
    simp only [PyData.shownAll, List.map_cons, List.map_nil, List.sum_cons, List.sum_nil, List.length_cons, List.length_nil]
    omega
  rw [PyData.shown, shown_rep]
  refine Nat.le_trans (listText_len_le _) ?_
  rw [List.map_replicate, List.sum_replicate_nat, List.length_replicate]
  omega
theorem great_ok : ∃ s, reprD (rep18 (U.int (-(10 ^ 30)))) = some (.str s) := by
  refine ⟨(PyData.list (List.replicate 18 (.list [.int (-(10 ^ 30)), .int (-(10 ^ 30))]))).shown, ?_⟩
  have hp : (rep18 (U.int (-(10 ^ 30)))).pyd = some (PyData.list (List.replicate 18 (.list [.int (-(10 ^ 30)), .int (-(10 ^ 30))]))) := rfl
  have h1 : (PyData.list (List.replicate 18 (.list [.int (-(10 ^ 30)), .int (-(10 ^ 30))]))).showable = true ∧ (PyData.list (List.replicate 18 (.list [.int (-(10 ^ 30)), .int (-(10 ^ 30))]))).depth ≤ 40 := by decide +kernel
  have h2 := great_len
  have hlim : lim = 100000 := rfl
  unfold reprD
  rw [hp, Option.bind_some, if_pos ⟨h1.1, h1.2, by omega⟩]
theorem great_is {x : U} (h : x.isGreat = true) : ∃ s, reprD (rep18 x) = some (.str s) := by
  cases x with
  | int i =>
    have e : i = -(10 ^ 30) := by simpa [U.isGreat] using h
    subst e
    exact great_ok
  | _ => cases h
theorem chk_ok {x : U} (h : chk x = true) : ∃ s, reprD (rep18 x) = some (.str s) := by
  unfold chk at h
  split at h
  · rename_i d hd
    obtain ⟨h1, h⟩ := Bool.and_eq_true_iff.mp h
    obtain ⟨h2, h⟩ := Bool.and_eq_true_iff.mp h
    obtain ⟨h3, h4⟩ := Bool.and_eq_true_iff.mp h
    have h2 := of_decide_eq_true h2
    have h4 := of_decide_eq_true h4
    have h5 := PyData.shown_le 40 (by decide) d h3
    have hlim : lim = 100000 := rfl
    refine ⟨d.shown, ?_⟩
    unfold reprD
    rw [hd, Option.bind_some, if_pos ⟨h1, h2, by omega⟩]
  · cases h
theorem tail_all {x : U} (h : x ∈ things) (us : List U) : tailK x us = some (.bl true, us) := by
  rw [tail_pm x us]
  obtain ⟨s, hs⟩ : ∃ s, reprD (rep18 x) = some (.str s) := (Bool.or_eq_true_iff.mp (List.all_eq_true.mp chk_all x h)).elim chk_ok great_is
  have : tailK x [] = some (.bl true, []) := by
    rw [tail_eq, hs]
    have e : orO (testO (op2 neV2 (some (U.str s)) (some (U.str s)))) (some false) = some false := by
      show orO (testO (neV2 (.str s) (.str s))) (some false) = _
      rw [ne_self]
      rfl
    rw [e]
    exact loop_ok x
  rw [this]
  rfl
theorem thing_ok {u : U} (hu : Urn u) : ∃ x u', b0 m_law_thing u [] = some (x, u') ∧ Urn u' ∧ x ∈ things := by
  obtain ⟨r, u', e, hu', h0, h1⟩ := draw_at (t := []) (n := 13) hu (by decide) (by decide)
  obtain ⟨k, rfl⟩ : ∃ k : Nat, r = k := ⟨r.toNat, by omega⟩
  have hk : k < things.length := by
    show k < 13
    omega
  have el : lstO (consO (some U.non) (consO (some (U.bl true)) (consO (some (U.int 0)) (consO (op1 negV (op2 powV (some (U.int 10)) (some (U.int 30)))) (consO (some (U.str "")) (consO (some (U.str "a")) (consO (some (U.str "a; b a")) (consO (tupO (some [])) (consO (tupO (consO (some (U.str "a")) (consO (tupO (consO (some (U.str "b")) (consO (some (U.int 1)) (some [])))) (some [])))) (consO (lstO (some [])) (consO (lstO (consO (lstO (consO (some (U.str "a")) (some []))) (some []))) (consO (some (U.dic [])) (consO (dispO (((some (U.str "a")), (tupO (some []))) :: [])) (some [])))))))))))))) = some (.lst things) := rfl
  refine ⟨things[k], u', ?_, hu', List.getElem_mem _⟩
  show finS (m_law_thing [u]) = _
  unfold m_law_thing
  rw [el, bindS_pure]
  have e2 : bindS (pureS (consO (some (U.int 13)) (some []))) (fun xs => callM 0 (b1 m_law_draw) xs) [u] = some (.int k, [u']) := e
  rw [opS_s (us := [u]) (a := .lst things) (us1 := [u]) rfl e2 (z := things[k]) (atI_nat' (List.getElem?_eq_getElem hk))]
  simp [finS, hu'.own]
theorem right_ok {u : U} (hu : Urn u) : ∃ u', b0 m_law_right u [] = some (.bl true, u') := by
  obtain ⟨x, u', e, hu', hx⟩ := thing_ok hu
  refine ⟨u', ?_⟩
  show finS (m_law_right [u]) = _
  rw [right_eq]
  have e1 : bindS (pureS (some [])) (fun xs => callM 0 (b0 m_law_thing) xs) [u] = some (x, [u']) := callM_s (us := [u]) (j := 0) rfl hu.own e
  rw [bindS_s e1, tail_all hx]
  simp [finS, hu'.own]

end K01
set_option Elab.async false
set_option linter.all false
set_option maxRecDepth 100000
set_option maxHeartbeats 2000000
namespace K01
open PySem L2 Dn
theorem callS_s {m : List U → Option U} {F : SM (List U)} {us us1 l : List U} (h : F us = some (l, us1)) : callS m F us = (m l).map fun x => (x, us1) := by
  unfold callS
  rw [bindS_s h]
  rfl
def lims : U := .lst [.int 40, .int 12, .int 1000000000000, .int 2000, .int 8, .int 8]
theorem ifS_no {α : Type} {F G : SM α} : ifS (pureS (some false)) F G = G := rfl
theorem maths (ns : List Int) (hl : ns.length ≤ 63) : m_law (.frl (ns.map U.int)) = some (.bl true) := by
  have el : callO lenV (consO (some (U.frl (ns.map U.int))) (some [])) = some (.int ns.length) := by simp [lenV]
  obtain ⟨m, em, hm⟩ : ∃ m : Nat, rngO rng1 (consO (callO maxA (consO (some (U.int 2)) (consO (callO minU (consO (callO lenV (consO (some (U.frl (ns.map U.int))) (some []))) (consO (some (U.int 4)) (some [])))) (some [])))) (some [])) = some (rangeU 0 m) ∧ m ≤ 1000 := by
    rw [el]
    have e1 : callO minU (consO (some (U.int ns.length)) (consO (some (U.int 4)) (some []))) = some (.int (if (4 : Int) < ns.length then 4 else ns.length)) := rfl
    rw [e1]
    generalize hq : (if (4 : Int) < ns.length then (4 : Int) else ns.length) = q
    have hq5 : q ≤ 5 ∧ 0 ≤ q := by subst hq; split <;> omega
    have e2 : callO maxA (consO (some (U.int 2)) (consO (some (U.int q)) (some []))) = some (.int (if q > 2 then q else 2)) := rfl
    rw [e2]
    generalize hz : (if q > 2 then q else 2) = z
    have hz5 : z ≤ 5 ∧ 0 ≤ z := by subst hz; split <;> omega
    refine ⟨z.toNat, ?_, by omega⟩
    show (if z ≤ 100000 ∧ -100000 ≤ z then some (rangeU 0 z.toNat) else none) = _
    rw [if_pos (by omega)]
  have hlim : lim = 100000 := rfl
  have hrl : (rangeU 0 m).length = m := by simp [rangeU]
  have hc : lcSL (fun u25 => (pureS (some true))) (fun u25 => (callF (b0 m_law_right) (callS (a2 m_law_purse) (pureS (consO (some (U.frl (ns.map U.int))) (consO (some u25) (some []))))) (pureS (some [])))) (rangeU 0 m) [] = some ((rangeU 0 m).map fun _ => U.bl true, []) := by
    refine lcSL_const (fun x us => rfl) (rangeU 0 m) [] fun x hx => ?_
    obtain ⟨i, hi, rfl⟩ := List.mem_map.mp hx
    rw [Int.zero_add]
    obtain ⟨u, eu, hu⟩ := purse_ok (t := i) hl
    obtain ⟨u', er⟩ := right_ok hu
    have e1 : callS (a2 m_law_purse) (pureS (consO (some (U.frl (ns.map U.int))) (consO (some (U.int i)) (some [])))) [] = some (u, []) := by
      show (m_law_purse (.frl (ns.map U.int)) (.int i)).map (fun x => (x, ([] : List U))) = _
      rw [eu]; rfl
    unfold callF
    rw [bindS_s e1, bindS_pure, er]
    rfl
  have e2 : m_lawS (.frl (ns.map U.int)) [] = some (.bl true, []) := by
    unfold m_lawS
    have ea : (lstO (consO (some (U.int 40)) (consO (some (U.int 12)) (consO (some (U.int 1000000000000)) (consO (some (U.int 2000)) (consO (some (U.int 8)) (consO (some (U.int 8)) (some [])))))))) = some lims := rfl
    have eb : (testO (op2 neV2 (some lims) (lstO (consO (some (U.int 40)) (consO (some (U.int 12)) (consO (op2 powV (some (U.int 10)) (some (U.int 12))) (consO (some (U.int 2000)) (consO (some (U.int 8)) (consO (some (U.int 8)) (some [])))))))))) = some false := by decide +kernel
    rw [ea, bindS_pure, eb, ifS_no, em]
    have e3 : lcS (fun u25 => (pureS (some true))) (fun u25 => (callF (b0 m_law_right) (callS (a2 m_law_purse) (pureS (consO (some (U.frl (ns.map U.int))) (consO (some u25) (some []))))) (pureS (some [])))) (pureS (some (rangeU 0 m))) [] = some (.frl ((rangeU 0 m).map fun _ => U.bl true), []) := by
      unfold lcS
      rw [bindS_pure, if_pos (by omega), bindS_s hc]
      rfl
    have e4 : keepN (lcS (fun u25 => (pureS (some true))) (fun u25 => (callF (b0 m_law_right) (callS (a2 m_law_purse) (pureS (consO (some (U.frl (ns.map U.int))) (consO (some u25) (some []))))) (pureS (some [])))) (pureS (some (rangeU 0 m)))) [] = some (.lst ((rangeU 0 m).map fun _ => U.bl true), []) := by
      unfold keepN
      rw [bindS_s e3]
      rfl
    rw [callS_s (consS_s e4 rfl), all_map (p := fun _ => true)]
    simp
  show (m_lawS (.frl (ns.map U.int)) []).map Prod.fst = _
  rw [e2]
  rfl

end K01
set_option Elab.async false
set_option linter.all false
set_option maxRecDepth 100000
set_option maxHeartbeats 2000000
namespace Dn
open PySem PySem.Spec PyProof.Rows L2
/-! ### what the end asks of the classes of exceptions -/
def ex0B (K : PySem.W.Frag) (tl : List Value) (n i : String) (C : Addr) : Bool := oexB K tl n C && (decide (PySem.W.findIn K (.ref C) "__init__" = some (some (.builtin i))) && PySem.W.keepIn K (.ref C))
theorem ex0_AE {K : PySem.W.Frag} {C : Addr} (h : ex0B K aeTail "ArithmeticError.__new__" "ArithmeticError.__init__" C = true) : Ex0K K C ∧ PySem.W.keepIn K (.ref C) = true := by
  obtain ⟨h1, h⟩ := Bool.and_eq_true_iff.mp h
  obtain ⟨h2, h3⟩ := Bool.and_eq_true_iff.mp h
  exact ⟨⟨_, oexB_AE h1, of_decide_eq_true h2⟩, h3⟩
theorem ex0_VE {K : PySem.W.Frag} {C : Addr} (h : ex0B K veTail "ValueError.__new__" "ValueError.__init__" C = true) : Ex0K K C ∧ PySem.W.keepIn K (.ref C) = true := by
  obtain ⟨h1, h⟩ := Bool.and_eq_true_iff.mp h
  obtain ⟨h2, h3⟩ := Bool.and_eq_true_iff.mp h
  exact ⟨⟨_, oexB_VE h1, of_decide_eq_true h2⟩, h3⟩
def clsB (K : PySem.W.Frag) (fs : List Str) (D : Addr) : Bool :=
  decide (PySem.W.findIn K (.ref D) "__getattribute__" = some (some (.builtin "BaseException.__getattribute__"))) && (decide (PySem.W.findIn K (.ref D) "__getattr__" = some none) && (decide (PySem.W.subIn K (.ref D) (.type "BaseException") = some true) && (PySem.W.hasDictIn K D &&
    (decide (PySem.W.findIn K (.ref D) "__class__" = some (some (.builtin "object.__class__"))) && (decide (PySem.W.mroIn K D (.type "object") = some true) && fs.all fun f => decide (PySem.W.findIn K (.ref D) f = some none))))))
theorem clsB_ok {K : PySem.W.Frag} {fs : List Str} {D : Addr} (h : clsB K fs D = true) (hn : PySem.W.specialIn K (.builtin "object.__class__") "__get__" = some (some (.builtin "getset_descriptor.__get__"))) (ht : PySem.W.takesIn K (.builtin "object.__class__") = some true) :
    ExcC K D ∧ XfC K D ∧ ∀ f ∈ fs, PySem.W.findIn K (.ref D) f = some none := by
  obtain ⟨h1, h⟩ := Bool.and_eq_true_iff.mp h
  obtain ⟨h2, h⟩ := Bool.and_eq_true_iff.mp h
  obtain ⟨h3, h⟩ := Bool.and_eq_true_iff.mp h
  obtain ⟨h4, h⟩ := Bool.and_eq_true_iff.mp h
  obtain ⟨h5, h⟩ := Bool.and_eq_true_iff.mp h
  obtain ⟨h6, h⟩ := Bool.and_eq_true_iff.mp h
  exact ⟨⟨of_decide_eq_true h1, of_decide_eq_true h2, of_decide_eq_true h3, h4, of_decide_eq_true h5, hn, ht, of_decide_eq_true h6⟩, ⟨of_decide_eq_true h1, of_decide_eq_true h2, of_decide_eq_true h3, h4⟩, fun f hf => of_decide_eq_true (List.all_eq_true.mp h f hf)⟩
theorem all_at {α : Type} {p : α → Bool} {l : List α} (h : l.all p = true) {x : α} (hx : x ∈ l) : p x = true := List.all_eq_true.mp h x hx
/-- by the classes' tags -/
theorem tag_all {L : List Addr} {b n : Nat} {p : Addr → Bool} (h : (List.range n).all (fun i => p (L.getD (b + i) 0)) = true) {C : Nat} (hC : decide (b ≤ C ∧ C < b + n) = true) : p (L.getD C 0) = true := by
  have hC := of_decide_eq_true hC
  have := List.all_eq_true.mp h (C - b) (List.mem_range.mpr (by omega))
  rwa [show b + (C - b) = C by omega] at this
theorem tag_map {L : List Addr} {b n : Nat} {f : Addr → Option Bool} {t : Nat → Bool} (h : (List.range n).map (fun i => f (L.getD (b + i) 0)) = (List.range n).map fun i => some (t (b + i))) {C : Nat} (hC : decide (b ≤ C ∧ C < b + n) = true) : f (L.getD C 0) = some (t C) := by
  have hC := of_decide_eq_true hC
  have := List.map_inj_left.mp h (C - b) (List.mem_range.mpr (by omega))
  rwa [show b + (C - b) = C by omega] at this
end Dn
set_option Elab.async false
set_option linter.all false
set_option maxRecDepth 100000
set_option maxHeartbeats 4000000
namespace K01
open PySem L2 Dn
/-! the end -/
theorem all_mk {l : PySem.W.OpenLaw} {w : World} {K : PySem.W.Frag} {h : Heap} {mg : Str → Option Value} {fa : Addr} {C0 : Addr} {C1 : Addr} {C2 : Addr} {C3 : Addr} {C4 : Addr} {C5 : Addr} {C6 : Addr} {C7 : Addr} {C8 : Addr} {C9 : Addr} {C10 : Addr} {C11 : Addr} {C12 : Addr} {C13 : Addr} {C14 : Addr} {C15 : Addr} {C16 : Addr} {C17 : Addr} {C18 : Addr} {C19 : Addr} {C20 : Addr} {C21 : Addr} (X : K.In h) (G : h.Ns mainGlobals mg) (hfa : mg "law" = some (.ref fa))
    {f30 : Addr} {od30 an30 : Option Addr} {sl30 : Array (Option Value)} {oc30 kV30 dc30 pm30 cd30 ct30 : Value}
    {f31 : Addr} {od31 an31 : Option Addr} {sl31 : Array (Option Value)} {oc31 kV31 dc31 pm31 cd31 ct31 : Value}
    {f32 : Addr} {od32 an32 : Option Addr} {sl32 : Array (Option Value)} {oc32 kV32 dc32 pm32 cd32 ct32 : Value}
    {f1000 : Addr} {od1000 an1000 : Option Addr} {sl1000 : Array (Option Value)} {oc1000 kV1000 dc1000 pm1000 cd1000 ct1000 : Value}
    {f1100 : Addr} {od1100 an1100 : Option Addr} {sl1100 : Array (Option Value)} {oc1100 kV1100 dc1100 pm1100 cd1100 ct1100 : Value}
    {f1200 : Addr} {od1200 an1200 : Option Addr} {sl1200 : Array (Option Value)} {oc1200 kV1200 dc1200 pm1200 cd1200 ct1200 : Value}
    {f1300 : Addr} {od1300 an1300 : Option Addr} {sl1300 : Array (Option Value)} {oc1300 kV1300 dc1300 pm1300 cd1300 ct1300 : Value}
    {f1400 : Addr} {od1400 an1400 : Option Addr} {sl1400 : Array (Option Value)} {oc1400 kV1400 dc1400 pm1400 cd1400 ct1400 : Value}
    {f1500 : Addr} {od1500 an1500 : Option Addr} {sl1500 : Array (Option Value)} {oc1500 kV1500 dc1500 pm1500 cd1500 ct1500 : Value}
    {f1600 : Addr} {od1600 an1600 : Option Addr} {sl1600 : Array (Option Value)} {oc1600 kV1600 dc1600 pm1600 cd1600 ct1600 : Value}
    {f1700 : Addr} {od1700 an1700 : Option Addr} {sl1700 : Array (Option Value)} {oc1700 kV1700 dc1700 pm1700 cd1700 ct1700 : Value}
    {f1800 : Addr} {od1800 an1800 : Option Addr} {sl1800 : Array (Option Value)} {oc1800 kV1800 dc1800 pm1800 cd1800 ct1800 : Value}
    {f1900 : Addr} {od1900 an1900 : Option Addr} {sl1900 : Array (Option Value)} {oc1900 kV1900 dc1900 pm1900 cd1900 ct1900 : Value}
    {f2000 : Addr} {od2000 an2000 : Option Addr} {sl2000 : Array (Option Value)} {oc2000 kV2000 dc2000 pm2000 cd2000 ct2000 : Value}
    {f2100 : Addr} {od2100 an2100 : Option Addr} {sl2100 : Array (Option Value)} {oc2100 kV2100 dc2100 pm2100 cd2100 ct2100 : Value}
    {f2200 : Addr} {od2200 an2200 : Option Addr} {sl2200 : Array (Option Value)} {oc2200 kV2200 dc2200 pm2200 cd2200 ct2200 : Value}
    {f2300 : Addr} {od2300 an2300 : Option Addr} {sl2300 : Array (Option Value)} {oc2300 kV2300 dc2300 pm2300 cd2300 ct2300 : Value}
    {f33 : Addr} {od33 an33 : Option Addr} {sl33 : Array (Option Value)} {oc33 kV33 dc33 pm33 cd33 ct33 : Value}
    {f2500 : Addr} {od2500 an2500 : Option Addr} {sl2500 : Array (Option Value)} {oc2500 kV2500 dc2500 pm2500 cd2500 ct2500 : Value}
    {f2600 : Addr} {od2600 an2600 : Option Addr} {sl2600 : Array (Option Value)} {oc2600 kV2600 dc2600 pm2600 cd2600 ct2600 : Value}
    {f2700 : Addr} {od2700 an2700 : Option Addr} {sl2700 : Array (Option Value)} {oc2700 kV2700 dc2700 pm2700 cd2700 ct2700 : Value}
    {f2800 : Addr} {od2800 an2800 : Option Addr} {sl2800 : Array (Option Value)} {oc2800 kV2800 dc2800 pm2800 cd2800 ct2800 : Value}
    {f34 : Addr} {od34 an34 : Option Addr} {sl34 : Array (Option Value)} {oc34 kV34 dc34 pm34 cd34 ct34 : Value}
    {f35 : Addr} {od35 an35 : Option Addr} {sl35 : Array (Option Value)} {oc35 kV35 dc35 pm35 cd35 ct35 : Value}
    {f36 : Addr} {od36 an36 : Option Addr} {sl36 : Array (Option Value)} {oc36 kV36 dc36 pm36 cd36 ct36 : Value}
    {f37 : Addr} {od37 an37 : Option Addr} {sl37 : Array (Option Value)} {oc37 kV37 dc37 pm37 cd37 ct37 : Value}
    {tk_MOST_COPIES : Tok}
    {tk_MOST_TOLD : Tok}
    {tk_MOST_WEIGHT : Tok}
    {tk_MOST_WALKED : Tok}
    {tk_MOST_OFFERS : Tok}
    {tk_MOST_FREED : Tok}
    (aC0 : PySem.W.nsIn K mainGlobals "InvalidText" = some (some (.ref C0)))
    (aC1 : PySem.W.nsIn K mainGlobals "InvalidNumber" = some (some (.ref C1)))
    (aC2 : PySem.W.nsIn K mainGlobals "InvalidName" = some (some (.ref C2)))
    (aC3 : PySem.W.nsIn K mainGlobals "InvalidIndex" = some (some (.ref C3)))
    (aC4 : PySem.W.nsIn K mainGlobals "InvalidClaim" = some (some (.ref C4)))
    (aC5 : PySem.W.nsIn K mainGlobals "InvalidChoice" = some (some (.ref C5)))
    (aC6 : PySem.W.nsIn K mainGlobals "UnknownName" = some (some (.ref C6)))
    (aC7 : PySem.W.nsIn K mainGlobals "NotAWeb" = some (some (.ref C7)))
    (aC8 : PySem.W.nsIn K mainGlobals "NotAShelf" = some (some (.ref C8)))
    (aC9 : PySem.W.nsIn K mainGlobals "InvalidSources" = some (some (.ref C9)))
    (aC10 : PySem.W.nsIn K mainGlobals "InvalidTold" = some (some (.ref C10)))
    (aC11 : PySem.W.nsIn K mainGlobals "InvalidWeights" = some (some (.ref C11)))
    (aC12 : PySem.W.nsIn K mainGlobals "InvalidOffers" = some (some (.ref C12)))
    (aC13 : PySem.W.nsIn K mainGlobals "InvalidFreed" = some (some (.ref C13)))
    (aC14 : PySem.W.nsIn K mainGlobals "NoChoice" = some (some (.ref C14)))
    (aC15 : PySem.W.nsIn K mainGlobals "TooMany" = some (some (.ref C15)))
    (aC16 : PySem.W.nsIn K mainGlobals "FullSource" = some (some (.ref C16)))
    (aC17 : PySem.W.nsIn K mainGlobals "Broken" = some (some (.ref C17)))
    (aC18 : PySem.W.nsIn K mainGlobals "InUse" = some (some (.ref C18)))
    (aC19 : PySem.W.nsIn K mainGlobals "NothingToUndo" = some (some (.ref C19)))
    (aC20 : PySem.W.nsIn K mainGlobals "WrongValue" = some (some (.ref C20)))
    (aC21 : PySem.W.nsIn K mainGlobals "NoAnswer" = some (some (.ref C21)))
    (xoVE_ : ([C0, C1, C2, C3, C4, C5, C6, C7, C8, C9, C10, C11, C12, C13] : List Addr).all (oexG K veTail "ValueError.__new__") = true)
    (xoAE_ : ([C15, C16, C17, C18] : List Addr).all (oexG K aeTail "ArithmeticError.__new__") = true)
    (x0AE_ : ([C14, C19] : List Addr).all (ex0B K aeTail "ArithmeticError.__new__" "ArithmeticError.__init__") = true)
    (on_ : PySem.W.specialIn K (.builtin "object.__class__") "__get__" = some (some (.builtin "getset_descriptor.__get__")))
    (ot_ : PySem.W.takesIn K (.builtin "object.__class__") = some true)
    (cls_ : (List.range 20).all (fun i => clsB K ["given", "index", "number", "told"] (([C0, C1, C2, C3, C4, C5, C6, C7, C8, C9, C10, C11, C12, C13, C14, C15, C16, C17, C18, C19, C20, C21] : List Addr).getD (0 + i) 0)) = true)
    (a30 : PySem.W.nsIn K mainGlobals "_law_purse" = some (some (.ref f30)))
    (l30 : K.lookup f30 = some ⟨oc30, od30, .func (PySem.W.fnOf "_law_purse" "_law_purse" (defArgs s_law_purse) (defBody s_law_purse) (defScope s_law_purse) .none kV30 dc30 pm30 an30 cd30 ct30), sl30⟩)
    (c30 : PySem.W.codeIn K cd30 "_law_purse" = true)
    (k30 : PySem.W.keepIn K (.ref f30) = true)
    (a31 : PySem.W.nsIn K mainGlobals "_law_draw" = some (some (.ref f31)))
    (l31 : K.lookup f31 = some ⟨oc31, od31, .func (PySem.W.fnOf "_law_draw" "_law_draw" (defArgs s_law_draw) (defBody s_law_draw) (defScope s_law_draw) .none kV31 dc31 pm31 an31 cd31 ct31), sl31⟩)
    (c31 : PySem.W.codeIn K cd31 "_law_draw" = true)
    (k31 : PySem.W.keepIn K (.ref f31) = true)
    (a32 : PySem.W.nsIn K mainGlobals "_law_thing" = some (some (.ref f32)))
    (l32 : K.lookup f32 = some ⟨oc32, od32, .func (PySem.W.fnOf "_law_thing" "_law_thing" (defArgs s_law_thing) (defBody s_law_thing) (defScope s_law_thing) .none kV32 dc32 pm32 an32 cd32 ct32), sl32⟩)
    (c32 : PySem.W.codeIn K cd32 "_law_thing" = true)
    (k32 : PySem.W.keepIn K (.ref f32) = true)
    (a1000 : PySem.W.findIn K (.ref C0) "__init__" = some (some (.ref f1000)))
    (i1000 : PySem.W.isFn K (.ref f1000) = true)
    (l1000 : K.lookup f1000 = some ⟨oc1000, od1000, .func (PySem.W.fnOf "__init__" "InvalidText.__init__" (defArgs s_InvalidText___init__) (defBody s_InvalidText___init__) (defScope s_InvalidText___init__) .none kV1000 dc1000 pm1000 an1000 cd1000 ct1000), sl1000⟩)
    (c1000 : PySem.W.codeIn K cd1000 "InvalidText.__init__" = true)
    (k1000 : PySem.W.keepIn K (.ref f1000) = true)
    (a1100 : PySem.W.findIn K (.ref C1) "__init__" = some (some (.ref f1100)))
    (i1100 : PySem.W.isFn K (.ref f1100) = true)
    (l1100 : K.lookup f1100 = some ⟨oc1100, od1100, .func (PySem.W.fnOf "__init__" "InvalidNumber.__init__" (defArgs s_InvalidNumber___init__) (defBody s_InvalidNumber___init__) (defScope s_InvalidNumber___init__) .none kV1100 dc1100 pm1100 an1100 cd1100 ct1100), sl1100⟩)
    (c1100 : PySem.W.codeIn K cd1100 "InvalidNumber.__init__" = true)
    (k1100 : PySem.W.keepIn K (.ref f1100) = true)
    (a1200 : PySem.W.findIn K (.ref C2) "__init__" = some (some (.ref f1200)))
    (i1200 : PySem.W.isFn K (.ref f1200) = true)
    (l1200 : K.lookup f1200 = some ⟨oc1200, od1200, .func (PySem.W.fnOf "__init__" "InvalidName.__init__" (defArgs s_InvalidName___init__) (defBody s_InvalidName___init__) (defScope s_InvalidName___init__) .none kV1200 dc1200 pm1200 an1200 cd1200 ct1200), sl1200⟩)
    (c1200 : PySem.W.codeIn K cd1200 "InvalidName.__init__" = true)
    (k1200 : PySem.W.keepIn K (.ref f1200) = true)
    (a1300 : PySem.W.findIn K (.ref C3) "__init__" = some (some (.ref f1300)))
    (i1300 : PySem.W.isFn K (.ref f1300) = true)
    (l1300 : K.lookup f1300 = some ⟨oc1300, od1300, .func (PySem.W.fnOf "__init__" "InvalidIndex.__init__" (defArgs s_InvalidIndex___init__) (defBody s_InvalidIndex___init__) (defScope s_InvalidIndex___init__) .none kV1300 dc1300 pm1300 an1300 cd1300 ct1300), sl1300⟩)
    (c1300 : PySem.W.codeIn K cd1300 "InvalidIndex.__init__" = true)
    (k1300 : PySem.W.keepIn K (.ref f1300) = true)
    (a1400 : PySem.W.findIn K (.ref C4) "__init__" = some (some (.ref f1400)))
    (i1400 : PySem.W.isFn K (.ref f1400) = true)
    (l1400 : K.lookup f1400 = some ⟨oc1400, od1400, .func (PySem.W.fnOf "__init__" "InvalidClaim.__init__" (defArgs s_InvalidClaim___init__) (defBody s_InvalidClaim___init__) (defScope s_InvalidClaim___init__) .none kV1400 dc1400 pm1400 an1400 cd1400 ct1400), sl1400⟩)
    (c1400 : PySem.W.codeIn K cd1400 "InvalidClaim.__init__" = true)
    (k1400 : PySem.W.keepIn K (.ref f1400) = true)
    (a1500 : PySem.W.findIn K (.ref C5) "__init__" = some (some (.ref f1500)))
    (i1500 : PySem.W.isFn K (.ref f1500) = true)
    (l1500 : K.lookup f1500 = some ⟨oc1500, od1500, .func (PySem.W.fnOf "__init__" "InvalidChoice.__init__" (defArgs s_InvalidChoice___init__) (defBody s_InvalidChoice___init__) (defScope s_InvalidChoice___init__) .none kV1500 dc1500 pm1500 an1500 cd1500 ct1500), sl1500⟩)
    (c1500 : PySem.W.codeIn K cd1500 "InvalidChoice.__init__" = true)
    (k1500 : PySem.W.keepIn K (.ref f1500) = true)
    (a1600 : PySem.W.findIn K (.ref C6) "__init__" = some (some (.ref f1600)))
    (i1600 : PySem.W.isFn K (.ref f1600) = true)
    (l1600 : K.lookup f1600 = some ⟨oc1600, od1600, .func (PySem.W.fnOf "__init__" "UnknownName.__init__" (defArgs s_UnknownName___init__) (defBody s_UnknownName___init__) (defScope s_UnknownName___init__) .none kV1600 dc1600 pm1600 an1600 cd1600 ct1600), sl1600⟩)
    (c1600 : PySem.W.codeIn K cd1600 "UnknownName.__init__" = true)
    (k1600 : PySem.W.keepIn K (.ref f1600) = true)
    (a1700 : PySem.W.findIn K (.ref C7) "__init__" = some (some (.ref f1700)))
    (i1700 : PySem.W.isFn K (.ref f1700) = true)
    (l1700 : K.lookup f1700 = some ⟨oc1700, od1700, .func (PySem.W.fnOf "__init__" "NotAWeb.__init__" (defArgs s_NotAWeb___init__) (defBody s_NotAWeb___init__) (defScope s_NotAWeb___init__) .none kV1700 dc1700 pm1700 an1700 cd1700 ct1700), sl1700⟩)
    (c1700 : PySem.W.codeIn K cd1700 "NotAWeb.__init__" = true)
    (k1700 : PySem.W.keepIn K (.ref f1700) = true)
    (a1800 : PySem.W.findIn K (.ref C8) "__init__" = some (some (.ref f1800)))
    (i1800 : PySem.W.isFn K (.ref f1800) = true)
    (l1800 : K.lookup f1800 = some ⟨oc1800, od1800, .func (PySem.W.fnOf "__init__" "NotAShelf.__init__" (defArgs s_NotAShelf___init__) (defBody s_NotAShelf___init__) (defScope s_NotAShelf___init__) .none kV1800 dc1800 pm1800 an1800 cd1800 ct1800), sl1800⟩)
    (c1800 : PySem.W.codeIn K cd1800 "NotAShelf.__init__" = true)
    (k1800 : PySem.W.keepIn K (.ref f1800) = true)
    (a1900 : PySem.W.findIn K (.ref C9) "__init__" = some (some (.ref f1900)))
    (i1900 : PySem.W.isFn K (.ref f1900) = true)
    (l1900 : K.lookup f1900 = some ⟨oc1900, od1900, .func (PySem.W.fnOf "__init__" "InvalidSources.__init__" (defArgs s_InvalidSources___init__) (defBody s_InvalidSources___init__) (defScope s_InvalidSources___init__) .none kV1900 dc1900 pm1900 an1900 cd1900 ct1900), sl1900⟩)
    (c1900 : PySem.W.codeIn K cd1900 "InvalidSources.__init__" = true)
    (k1900 : PySem.W.keepIn K (.ref f1900) = true)
    (a2000 : PySem.W.findIn K (.ref C10) "__init__" = some (some (.ref f2000)))
    (i2000 : PySem.W.isFn K (.ref f2000) = true)
    (l2000 : K.lookup f2000 = some ⟨oc2000, od2000, .func (PySem.W.fnOf "__init__" "InvalidTold.__init__" (defArgs s_InvalidTold___init__) (defBody s_InvalidTold___init__) (defScope s_InvalidTold___init__) .none kV2000 dc2000 pm2000 an2000 cd2000 ct2000), sl2000⟩)
    (c2000 : PySem.W.codeIn K cd2000 "InvalidTold.__init__" = true)
    (k2000 : PySem.W.keepIn K (.ref f2000) = true)
    (a2100 : PySem.W.findIn K (.ref C11) "__init__" = some (some (.ref f2100)))
    (i2100 : PySem.W.isFn K (.ref f2100) = true)
    (l2100 : K.lookup f2100 = some ⟨oc2100, od2100, .func (PySem.W.fnOf "__init__" "InvalidWeights.__init__" (defArgs s_InvalidWeights___init__) (defBody s_InvalidWeights___init__) (defScope s_InvalidWeights___init__) .none kV2100 dc2100 pm2100 an2100 cd2100 ct2100), sl2100⟩)
    (c2100 : PySem.W.codeIn K cd2100 "InvalidWeights.__init__" = true)
    (k2100 : PySem.W.keepIn K (.ref f2100) = true)
    (a2200 : PySem.W.findIn K (.ref C12) "__init__" = some (some (.ref f2200)))
    (i2200 : PySem.W.isFn K (.ref f2200) = true)
    (l2200 : K.lookup f2200 = some ⟨oc2200, od2200, .func (PySem.W.fnOf "__init__" "InvalidOffers.__init__" (defArgs s_InvalidOffers___init__) (defBody s_InvalidOffers___init__) (defScope s_InvalidOffers___init__) .none kV2200 dc2200 pm2200 an2200 cd2200 ct2200), sl2200⟩)
    (c2200 : PySem.W.codeIn K cd2200 "InvalidOffers.__init__" = true)
    (k2200 : PySem.W.keepIn K (.ref f2200) = true)
    (a2300 : PySem.W.findIn K (.ref C13) "__init__" = some (some (.ref f2300)))
    (i2300 : PySem.W.isFn K (.ref f2300) = true)
    (l2300 : K.lookup f2300 = some ⟨oc2300, od2300, .func (PySem.W.fnOf "__init__" "InvalidFreed.__init__" (defArgs s_InvalidFreed___init__) (defBody s_InvalidFreed___init__) (defScope s_InvalidFreed___init__) .none kV2300 dc2300 pm2300 an2300 cd2300 ct2300), sl2300⟩)
    (c2300 : PySem.W.codeIn K cd2300 "InvalidFreed.__init__" = true)
    (k2300 : PySem.W.keepIn K (.ref f2300) = true)
    (a33 : PySem.W.nsIn K mainGlobals "_law_firsts" = some (some (.ref f33)))
    (l33 : K.lookup f33 = some ⟨oc33, od33, .func (PySem.W.fnOf "_law_firsts" "_law_firsts" (defArgs s_law_firsts) (defBody s_law_firsts) (defScope s_law_firsts) .none kV33 dc33 pm33 an33 cd33 ct33), sl33⟩)
    (c33 : PySem.W.codeIn K cd33 "_law_firsts" = true)
    (k33 : PySem.W.keepIn K (.ref f33) = true)
    (a2500 : PySem.W.findIn K (.ref C15) "__init__" = some (some (.ref f2500)))
    (i2500 : PySem.W.isFn K (.ref f2500) = true)
    (l2500 : K.lookup f2500 = some ⟨oc2500, od2500, .func (PySem.W.fnOf "__init__" "TooMany.__init__" (defArgs s_TooMany___init__) (defBody s_TooMany___init__) (defScope s_TooMany___init__) .none kV2500 dc2500 pm2500 an2500 cd2500 ct2500), sl2500⟩)
    (c2500 : PySem.W.codeIn K cd2500 "TooMany.__init__" = true)
    (k2500 : PySem.W.keepIn K (.ref f2500) = true)
    (a2600 : PySem.W.findIn K (.ref C16) "__init__" = some (some (.ref f2600)))
    (i2600 : PySem.W.isFn K (.ref f2600) = true)
    (l2600 : K.lookup f2600 = some ⟨oc2600, od2600, .func (PySem.W.fnOf "__init__" "FullSource.__init__" (defArgs s_FullSource___init__) (defBody s_FullSource___init__) (defScope s_FullSource___init__) .none kV2600 dc2600 pm2600 an2600 cd2600 ct2600), sl2600⟩)
    (c2600 : PySem.W.codeIn K cd2600 "FullSource.__init__" = true)
    (k2600 : PySem.W.keepIn K (.ref f2600) = true)
    (a2700 : PySem.W.findIn K (.ref C17) "__init__" = some (some (.ref f2700)))
    (i2700 : PySem.W.isFn K (.ref f2700) = true)
    (l2700 : K.lookup f2700 = some ⟨oc2700, od2700, .func (PySem.W.fnOf "__init__" "Broken.__init__" (defArgs s_Broken___init__) (defBody s_Broken___init__) (defScope s_Broken___init__) .none kV2700 dc2700 pm2700 an2700 cd2700 ct2700), sl2700⟩)
    (c2700 : PySem.W.codeIn K cd2700 "Broken.__init__" = true)
    (k2700 : PySem.W.keepIn K (.ref f2700) = true)
    (a2800 : PySem.W.findIn K (.ref C18) "__init__" = some (some (.ref f2800)))
    (i2800 : PySem.W.isFn K (.ref f2800) = true)
    (l2800 : K.lookup f2800 = some ⟨oc2800, od2800, .func (PySem.W.fnOf "__init__" "InUse.__init__" (defArgs s_InUse___init__) (defBody s_InUse___init__) (defScope s_InUse___init__) .none kV2800 dc2800 pm2800 an2800 cd2800 ct2800), sl2800⟩)
    (c2800 : PySem.W.codeIn K cd2800 "InUse.__init__" = true)
    (k2800 : PySem.W.keepIn K (.ref f2800) = true)
    (a34 : PySem.W.nsIn K mainGlobals "_law_seconds" = some (some (.ref f34)))
    (l34 : K.lookup f34 = some ⟨oc34, od34, .func (PySem.W.fnOf "_law_seconds" "_law_seconds" (defArgs s_law_seconds) (defBody s_law_seconds) (defScope s_law_seconds) .none kV34 dc34 pm34 an34 cd34 ct34), sl34⟩)
    (c34 : PySem.W.codeIn K cd34 "_law_seconds" = true)
    (k34 : PySem.W.keepIn K (.ref f34) = true)
    (a35 : PySem.W.nsIn K mainGlobals "_law_flags" = some (some (.ref f35)))
    (l35 : K.lookup f35 = some ⟨oc35, od35, .func (PySem.W.fnOf "_law_flags" "_law_flags" (defArgs s_law_flags) (defBody s_law_flags) (defScope s_law_flags) .none kV35 dc35 pm35 an35 cd35 ct35), sl35⟩)
    (c35 : PySem.W.codeIn K cd35 "_law_flags" = true)
    (k35 : PySem.W.keepIn K (.ref f35) = true)
    (a36 : PySem.W.nsIn K mainGlobals "_law_right" = some (some (.ref f36)))
    (l36 : K.lookup f36 = some ⟨oc36, od36, .func (PySem.W.fnOf "_law_right" "_law_right" (defArgs s_law_right) (defBody s_law_right) (defScope s_law_right) .none kV36 dc36 pm36 an36 cd36 ct36), sl36⟩)
    (c36 : PySem.W.codeIn K cd36 "_law_right" = true)
    (k36 : PySem.W.keepIn K (.ref f36) = true)
    (a37 : PySem.W.nsIn K mainGlobals "law" = some (some (.ref f37)))
    (l37 : K.lookup f37 = some ⟨oc37, od37, .func (PySem.W.fnOf "law" "law" (defArgs s_law) (defBody s_law) (defScope s_law) .none kV37 dc37 pm37 an37 cd37 ct37), sl37⟩)
    (c37 : PySem.W.codeIn K cd37 "law" = true)
    (k37 : PySem.W.keepIn K (.ref f37) = true)
    (z_len : PySem.W.nsIn K mainGlobals "len" = some none)
    (z_int : PySem.W.nsIn K mainGlobals "int" = some none)
    (z_abs : PySem.W.nsIn K mainGlobals "abs" = some none)
    (z_divmod : PySem.W.nsIn K mainGlobals "divmod" = some none)
    (z_isinstance : PySem.W.nsIn K mainGlobals "isinstance" = some none)
    (z_repr : PySem.W.nsIn K mainGlobals "repr" = some none)
    (z_enumerate : PySem.W.nsIn K mainGlobals "enumerate" = some none)
    (z_ValueError : PySem.W.nsIn K mainGlobals "ValueError" = some none)
    (z_ArithmeticError : PySem.W.nsIn K mainGlobals "ArithmeticError" = some none)
    (z_min : PySem.W.nsIn K mainGlobals "min" = some none)
    (z_max : PySem.W.nsIn K mainGlobals "max" = some none)
    (z_range : PySem.W.nsIn K mainGlobals "range" = some none)
    (z_all : PySem.W.nsIn K mainGlobals "all" = some none)
    (n_MOST_COPIES : PySem.W.nsIn K mainGlobals "MOST_COPIES" = some (some (.int 40 tk_MOST_COPIES)))
    (n_MOST_TOLD : PySem.W.nsIn K mainGlobals "MOST_TOLD" = some (some (.int 12 tk_MOST_TOLD)))
    (n_MOST_WEIGHT : PySem.W.nsIn K mainGlobals "MOST_WEIGHT" = some (some (.int 1000000000000 tk_MOST_WEIGHT)))
    (n_MOST_WALKED : PySem.W.nsIn K mainGlobals "MOST_WALKED" = some (some (.int 2000 tk_MOST_WALKED)))
    (n_MOST_OFFERS : PySem.W.nsIn K mainGlobals "MOST_OFFERS" = some (some (.int 8 tk_MOST_OFFERS)))
    (n_MOST_FREED : PySem.W.nsIn K mainGlobals "MOST_FREED" = some (some (.int 8 tk_MOST_FREED)))
    (kt_ArithmeticError : (List.range 20).map (fun i => PySem.W.kitOne K (.ref (([C0, C1, C2, C3, C4, C5, C6, C7, C8, C9, C10, C11, C12, C13, C14, C15, C16, C17, C18, C19, C20, C21] : List Addr).getD (0 + i) 0)) (.type "ArithmeticError")) = (List.range 20).map fun i => some (tabX_ArithmeticError (0 + i)))
    (kt_Broken : (List.range 20).map (fun i => PySem.W.kitOne K (.ref (([C0, C1, C2, C3, C4, C5, C6, C7, C8, C9, C10, C11, C12, C13, C14, C15, C16, C17, C18, C19, C20, C21] : List Addr).getD (0 + i) 0)) (.ref C17)) = (List.range 20).map fun i => some (tabX_Broken (0 + i)))
    (kt_FullSource : (List.range 20).map (fun i => PySem.W.kitOne K (.ref (([C0, C1, C2, C3, C4, C5, C6, C7, C8, C9, C10, C11, C12, C13, C14, C15, C16, C17, C18, C19, C20, C21] : List Addr).getD (0 + i) 0)) (.ref C16)) = (List.range 20).map fun i => some (tabX_FullSource (0 + i)))
    (kt_InUse : (List.range 20).map (fun i => PySem.W.kitOne K (.ref (([C0, C1, C2, C3, C4, C5, C6, C7, C8, C9, C10, C11, C12, C13, C14, C15, C16, C17, C18, C19, C20, C21] : List Addr).getD (0 + i) 0)) (.ref C18)) = (List.range 20).map fun i => some (tabX_InUse (0 + i)))
    (kt_InvalidChoice : (List.range 20).map (fun i => PySem.W.kitOne K (.ref (([C0, C1, C2, C3, C4, C5, C6, C7, C8, C9, C10, C11, C12, C13, C14, C15, C16, C17, C18, C19, C20, C21] : List Addr).getD (0 + i) 0)) (.ref C5)) = (List.range 20).map fun i => some (tabX_InvalidChoice (0 + i)))
    (kt_InvalidClaim : (List.range 20).map (fun i => PySem.W.kitOne K (.ref (([C0, C1, C2, C3, C4, C5, C6, C7, C8, C9, C10, C11, C12, C13, C14, C15, C16, C17, C18, C19, C20, C21] : List Addr).getD (0 + i) 0)) (.ref C4)) = (List.range 20).map fun i => some (tabX_InvalidClaim (0 + i)))
    (kt_InvalidFreed : (List.range 20).map (fun i => PySem.W.kitOne K (.ref (([C0, C1, C2, C3, C4, C5, C6, C7, C8, C9, C10, C11, C12, C13, C14, C15, C16, C17, C18, C19, C20, C21] : List Addr).getD (0 + i) 0)) (.ref C13)) = (List.range 20).map fun i => some (tabX_InvalidFreed (0 + i)))
    (kt_InvalidIndex : (List.range 20).map (fun i => PySem.W.kitOne K (.ref (([C0, C1, C2, C3, C4, C5, C6, C7, C8, C9, C10, C11, C12, C13, C14, C15, C16, C17, C18, C19, C20, C21] : List Addr).getD (0 + i) 0)) (.ref C3)) = (List.range 20).map fun i => some (tabX_InvalidIndex (0 + i)))
    (kt_InvalidName : (List.range 20).map (fun i => PySem.W.kitOne K (.ref (([C0, C1, C2, C3, C4, C5, C6, C7, C8, C9, C10, C11, C12, C13, C14, C15, C16, C17, C18, C19, C20, C21] : List Addr).getD (0 + i) 0)) (.ref C2)) = (List.range 20).map fun i => some (tabX_InvalidName (0 + i)))
    (kt_InvalidNumber : (List.range 20).map (fun i => PySem.W.kitOne K (.ref (([C0, C1, C2, C3, C4, C5, C6, C7, C8, C9, C10, C11, C12, C13, C14, C15, C16, C17, C18, C19, C20, C21] : List Addr).getD (0 + i) 0)) (.ref C1)) = (List.range 20).map fun i => some (tabX_InvalidNumber (0 + i)))
    (kt_InvalidOffers : (List.range 20).map (fun i => PySem.W.kitOne K (.ref (([C0, C1, C2, C3, C4, C5, C6, C7, C8, C9, C10, C11, C12, C13, C14, C15, C16, C17, C18, C19, C20, C21] : List Addr).getD (0 + i) 0)) (.ref C12)) = (List.range 20).map fun i => some (tabX_InvalidOffers (0 + i)))
    (kt_InvalidSources : (List.range 20).map (fun i => PySem.W.kitOne K (.ref (([C0, C1, C2, C3, C4, C5, C6, C7, C8, C9, C10, C11, C12, C13, C14, C15, C16, C17, C18, C19, C20, C21] : List Addr).getD (0 + i) 0)) (.ref C9)) = (List.range 20).map fun i => some (tabX_InvalidSources (0 + i)))
    (kt_InvalidText : (List.range 20).map (fun i => PySem.W.kitOne K (.ref (([C0, C1, C2, C3, C4, C5, C6, C7, C8, C9, C10, C11, C12, C13, C14, C15, C16, C17, C18, C19, C20, C21] : List Addr).getD (0 + i) 0)) (.ref C0)) = (List.range 20).map fun i => some (tabX_InvalidText (0 + i)))
    (kt_InvalidTold : (List.range 20).map (fun i => PySem.W.kitOne K (.ref (([C0, C1, C2, C3, C4, C5, C6, C7, C8, C9, C10, C11, C12, C13, C14, C15, C16, C17, C18, C19, C20, C21] : List Addr).getD (0 + i) 0)) (.ref C10)) = (List.range 20).map fun i => some (tabX_InvalidTold (0 + i)))
    (kt_InvalidWeights : (List.range 20).map (fun i => PySem.W.kitOne K (.ref (([C0, C1, C2, C3, C4, C5, C6, C7, C8, C9, C10, C11, C12, C13, C14, C15, C16, C17, C18, C19, C20, C21] : List Addr).getD (0 + i) 0)) (.ref C11)) = (List.range 20).map fun i => some (tabX_InvalidWeights (0 + i)))
    (kt_NoAnswer : (List.range 20).map (fun i => PySem.W.kitOne K (.ref (([C0, C1, C2, C3, C4, C5, C6, C7, C8, C9, C10, C11, C12, C13, C14, C15, C16, C17, C18, C19, C20, C21] : List Addr).getD (0 + i) 0)) (.ref C21)) = (List.range 20).map fun i => some (tabX_NoAnswer (0 + i)))
    (kt_NoChoice : (List.range 20).map (fun i => PySem.W.kitOne K (.ref (([C0, C1, C2, C3, C4, C5, C6, C7, C8, C9, C10, C11, C12, C13, C14, C15, C16, C17, C18, C19, C20, C21] : List Addr).getD (0 + i) 0)) (.ref C14)) = (List.range 20).map fun i => some (tabX_NoChoice (0 + i)))
    (kt_NotAShelf : (List.range 20).map (fun i => PySem.W.kitOne K (.ref (([C0, C1, C2, C3, C4, C5, C6, C7, C8, C9, C10, C11, C12, C13, C14, C15, C16, C17, C18, C19, C20, C21] : List Addr).getD (0 + i) 0)) (.ref C8)) = (List.range 20).map fun i => some (tabX_NotAShelf (0 + i)))
    (kt_NotAWeb : (List.range 20).map (fun i => PySem.W.kitOne K (.ref (([C0, C1, C2, C3, C4, C5, C6, C7, C8, C9, C10, C11, C12, C13, C14, C15, C16, C17, C18, C19, C20, C21] : List Addr).getD (0 + i) 0)) (.ref C7)) = (List.range 20).map fun i => some (tabX_NotAWeb (0 + i)))
    (kt_NothingToUndo : (List.range 20).map (fun i => PySem.W.kitOne K (.ref (([C0, C1, C2, C3, C4, C5, C6, C7, C8, C9, C10, C11, C12, C13, C14, C15, C16, C17, C18, C19, C20, C21] : List Addr).getD (0 + i) 0)) (.ref C19)) = (List.range 20).map fun i => some (tabX_NothingToUndo (0 + i)))
    (kt_TooMany : (List.range 20).map (fun i => PySem.W.kitOne K (.ref (([C0, C1, C2, C3, C4, C5, C6, C7, C8, C9, C10, C11, C12, C13, C14, C15, C16, C17, C18, C19, C20, C21] : List Addr).getD (0 + i) 0)) (.ref C15)) = (List.range 20).map fun i => some (tabX_TooMany (0 + i)))
    (kt_UnknownName : (List.range 20).map (fun i => PySem.W.kitOne K (.ref (([C0, C1, C2, C3, C4, C5, C6, C7, C8, C9, C10, C11, C12, C13, C14, C15, C16, C17, C18, C19, C20, C21] : List Addr).getD (0 + i) 0)) (.ref C6)) = (List.range 20).map fun i => some (tabX_UnknownName (0 + i)))
    (kt_ValueError : (List.range 20).map (fun i => PySem.W.kitOne K (.ref (([C0, C1, C2, C3, C4, C5, C6, C7, C8, C9, C10, C11, C12, C13, C14, C15, C16, C17, C18, C19, C20, C21] : List Addr).getD (0 + i) 0)) (.type "ValueError")) = (List.range 20).map fun i => some (tabX_ValueError (0 + i)))
    (kt_WrongValue : (List.range 20).map (fun i => PySem.W.kitOne K (.ref (([C0, C1, C2, C3, C4, C5, C6, C7, C8, C9, C10, C11, C12, C13, C14, C15, C16, C17, C18, C19, C20, C21] : List Addr).getD (0 + i) 0)) (.ref C20)) = (List.range 20).map fun i => some (tabX_WrongValue (0 + i)))
    : ∃ fd : FuncData, (∀ (s : Shared) (v : Value), BindsTo s fd ⟨[v], []⟩ [("_law_script", v)]) ∧ ∀ base : Heap, K.In base → base.Ns mainGlobals mg → SmB base → FnG l.prog w K mg base CX0 5 fa fd ["_law_script"] spLaw := by
  let ct : CTab := ⟨fun i => ([C0, C1, C2, C3, C4, C5, C6, C7, C8, C9, C10, C11, C12, C13, C14, C15, C16, C17, C18, C19, C20, C21] : List Addr).getD i 0, 0⟩
  have e := hfa.symm.trans (PySem.W.mg_of X G a37)
  cases e
  have F30 := fun_mk (st := s_law_purse) l30 c30 k30
  have b30 := F30.binds (ps := ["_law_script", "_law_spot"]) fun _ _ _ _ _ _ us hl => match us, hl with | [_, _], _ => rfl
  have F31 := fun_mk (st := s_law_draw) l31 c31 k31
  have b31 := F31.binds (ps := ["_law_purse_here", "_law_many"]) fun _ _ _ _ _ _ us hl => match us, hl with | [_, _], _ => rfl
  have F32 := fun_mk (st := s_law_thing) l32 c32 k32
  have b32 := F32.binds (ps := ["_law_purse_here"]) fun _ _ _ _ _ _ us hl => match us, hl with | [_], _ => rfl
  have F1000 := fun_mk (st := s_InvalidText___init__) l1000 c1000 k1000
  have b1000 := F1000.binds (ps := ["self", "given"]) fun _ _ _ _ _ _ us hl => match us, hl with | [_, _], _ => rfl
  have F1100 := fun_mk (st := s_InvalidNumber___init__) l1100 c1100 k1100
  have b1100 := F1100.binds (ps := ["self", "given"]) fun _ _ _ _ _ _ us hl => match us, hl with | [_, _], _ => rfl
  have F1200 := fun_mk (st := s_InvalidName___init__) l1200 c1200 k1200
  have b1200 := F1200.binds (ps := ["self", "given"]) fun _ _ _ _ _ _ us hl => match us, hl with | [_, _], _ => rfl
  have F1300 := fun_mk (st := s_InvalidIndex___init__) l1300 c1300 k1300
  have b1300 := F1300.binds (ps := ["self", "given"]) fun _ _ _ _ _ _ us hl => match us, hl with | [_, _], _ => rfl
  have F1400 := fun_mk (st := s_InvalidClaim___init__) l1400 c1400 k1400
  have b1400 := F1400.binds (ps := ["self", "given"]) fun _ _ _ _ _ _ us hl => match us, hl with | [_, _], _ => rfl
  have F1500 := fun_mk (st := s_InvalidChoice___init__) l1500 c1500 k1500
  have b1500 := F1500.binds (ps := ["self", "given"]) fun _ _ _ _ _ _ us hl => match us, hl with | [_, _], _ => rfl
  have F1600 := fun_mk (st := s_UnknownName___init__) l1600 c1600 k1600
  have b1600 := F1600.binds (ps := ["self", "given"]) fun _ _ _ _ _ _ us hl => match us, hl with | [_, _], _ => rfl
  have F1700 := fun_mk (st := s_NotAWeb___init__) l1700 c1700 k1700
  have b1700 := F1700.binds (ps := ["self", "given"]) fun _ _ _ _ _ _ us hl => match us, hl with | [_, _], _ => rfl
  have F1800 := fun_mk (st := s_NotAShelf___init__) l1800 c1800 k1800
  have b1800 := F1800.binds (ps := ["self", "given"]) fun _ _ _ _ _ _ us hl => match us, hl with | [_, _], _ => rfl
  have F1900 := fun_mk (st := s_InvalidSources___init__) l1900 c1900 k1900
  have b1900 := F1900.binds (ps := ["self", "given"]) fun _ _ _ _ _ _ us hl => match us, hl with | [_, _], _ => rfl
  have F2000 := fun_mk (st := s_InvalidTold___init__) l2000 c2000 k2000
  have b2000 := F2000.binds (ps := ["self", "index"]) fun _ _ _ _ _ _ us hl => match us, hl with | [_, _], _ => rfl
  have F2100 := fun_mk (st := s_InvalidWeights___init__) l2100 c2100 k2100
  have b2100 := F2100.binds (ps := ["self", "index"]) fun _ _ _ _ _ _ us hl => match us, hl with | [_, _], _ => rfl
  have F2200 := fun_mk (st := s_InvalidOffers___init__) l2200 c2200 k2200
  have b2200 := F2200.binds (ps := ["self", "index"]) fun _ _ _ _ _ _ us hl => match us, hl with | [_, _], _ => rfl
  have F2300 := fun_mk (st := s_InvalidFreed___init__) l2300 c2300 k2300
  have b2300 := F2300.binds (ps := ["self", "index"]) fun _ _ _ _ _ _ us hl => match us, hl with | [_, _], _ => rfl
  have F33 := fun_mk (st := s_law_firsts) l33 c33 k33
  have b33 := F33.binds (ps := ["_law_x"]) fun _ _ _ _ _ _ us hl => match us, hl with | [_], _ => rfl
  have F2500 := fun_mk (st := s_TooMany___init__) l2500 c2500 k2500
  have b2500 := F2500.binds (ps := ["self", "number"]) fun _ _ _ _ _ _ us hl => match us, hl with | [_, _], _ => rfl
  have F2600 := fun_mk (st := s_FullSource___init__) l2600 c2600 k2600
  have b2600 := F2600.binds (ps := ["self", "given"]) fun _ _ _ _ _ _ us hl => match us, hl with | [_, _], _ => rfl
  have F2700 := fun_mk (st := s_Broken___init__) l2700 c2700 k2700
  have b2700 := F2700.binds (ps := ["self", "index", "told"]) fun _ _ _ _ _ _ us hl => match us, hl with | [_, _, _], _ => rfl
  have F2800 := fun_mk (st := s_InUse___init__) l2800 c2800 k2800
  have b2800 := F2800.binds (ps := ["self", "index"]) fun _ _ _ _ _ _ us hl => match us, hl with | [_, _], _ => rfl
  have F34 := fun_mk (st := s_law_seconds) l34 c34 k34
  have b34 := F34.binds (ps := ["_law_x"]) fun _ _ _ _ _ _ us hl => match us, hl with | [_], _ => rfl
  have F35 := fun_mk (st := s_law_flags) l35 c35 k35
  have b35 := F35.binds (ps := ["_law_e"]) fun _ _ _ _ _ _ us hl => match us, hl with | [_], _ => rfl
  have F36 := fun_mk (st := s_law_right) l36 c36 k36
  have b36 := F36.binds (ps := ["_law_purse_here"]) fun _ _ _ _ _ _ us hl => match us, hl with | [_], _ => rfl
  have F37 := fun_mk (st := s_law) l37 c37 k37
  have b37 := F37.binds (ps := ["_law_script"]) fun _ _ _ _ _ _ us hl => match us, hl with | [_], _ => rfl
  refine ⟨PySem.W.fnOf "law" "law" (defArgs s_law) (defBody s_law) (defScope s_law) .none kV37 dc37 pm37 an37 cd37 ct37, fun s v => .of_eq rfl, fun base _ _ smb => ?_⟩
  have T : Tx w K mg base (fun n => match n with | 30 => f30 | 31 => f31 | 32 => f32 | 33 => f33 | 34 => f34 | 35 => f35 | 36 => f36 | 37 => fa | 1000 => f1000 | 1100 => f1100 | 1200 => f1200 | 1300 => f1300 | 1400 => f1400 | 1500 => f1500 | 1600 => f1600 | 1700 => f1700 | 1800 => f1800 | 1900 => f1900 | 2000 => f2000 | 2100 => f2100 | 2200 => f2200 | 2300 => f2300 | 2500 => f2500 | 2600 => f2600 | 2700 => f2700 | 2800 => f2800 | _ => 0) (fun n => match n with | 30 => PySem.W.fnOf "_law_purse" "_law_purse" (defArgs s_law_purse) (defBody s_law_purse) (defScope s_law_purse) .none kV30 dc30 pm30 an30 cd30 ct30 | 31 => PySem.W.fnOf "_law_draw" "_law_draw" (defArgs s_law_draw) (defBody s_law_draw) (defScope s_law_draw) .none kV31 dc31 pm31 an31 cd31 ct31 | 32 => PySem.W.fnOf "_law_thing" "_law_thing" (defArgs s_law_thing) (defBody s_law_thing) (defScope s_law_thing) .none kV32 dc32 pm32 an32 cd32 ct32 | 33 => PySem.W.fnOf "_law_firsts" "_law_firsts" (defArgs s_law_firsts) (defBody s_law_firsts) (defScope s_law_firsts) .none kV33 dc33 pm33 an33 cd33 ct33 | 34 => PySem.W.fnOf "_law_seconds" "_law_seconds" (defArgs s_law_seconds) (defBody s_law_seconds) (defScope s_law_seconds) .none kV34 dc34 pm34 an34 cd34 ct34 | 35 => PySem.W.fnOf "_law_flags" "_law_flags" (defArgs s_law_flags) (defBody s_law_flags) (defScope s_law_flags) .none kV35 dc35 pm35 an35 cd35 ct35 | 36 => PySem.W.fnOf "_law_right" "_law_right" (defArgs s_law_right) (defBody s_law_right) (defScope s_law_right) .none kV36 dc36 pm36 an36 cd36 ct36 | 37 => PySem.W.fnOf "law" "law" (defArgs s_law) (defBody s_law) (defScope s_law) .none kV37 dc37 pm37 an37 cd37 ct37 | 1000 => PySem.W.fnOf "__init__" "InvalidText.__init__" (defArgs s_InvalidText___init__) (defBody s_InvalidText___init__) (defScope s_InvalidText___init__) .none kV1000 dc1000 pm1000 an1000 cd1000 ct1000 | 1100 => PySem.W.fnOf "__init__" "InvalidNumber.__init__" (defArgs s_InvalidNumber___init__) (defBody s_InvalidNumber___init__) (defScope s_InvalidNumber___init__) .none kV1100 dc1100 pm1100 an1100 cd1100 ct1100 | 1200 => PySem.W.fnOf "__init__" "InvalidName.__init__" (defArgs s_InvalidName___init__) (defBody s_InvalidName___init__) (defScope s_InvalidName___init__) .none kV1200 dc1200 pm1200 an1200 cd1200 ct1200 | 1300 => PySem.W.fnOf "__init__" "InvalidIndex.__init__" (defArgs s_InvalidIndex___init__) (defBody s_InvalidIndex___init__) (defScope s_InvalidIndex___init__) .none kV1300 dc1300 pm1300 an1300 cd1300 ct1300 | 1400 => PySem.W.fnOf "__init__" "InvalidClaim.__init__" (defArgs s_InvalidClaim___init__) (defBody s_InvalidClaim___init__) (defScope s_InvalidClaim___init__) .none kV1400 dc1400 pm1400 an1400 cd1400 ct1400 | 1500 => PySem.W.fnOf "__init__" "InvalidChoice.__init__" (defArgs s_InvalidChoice___init__) (defBody s_InvalidChoice___init__) (defScope s_InvalidChoice___init__) .none kV1500 dc1500 pm1500 an1500 cd1500 ct1500 | 1600 => PySem.W.fnOf "__init__" "UnknownName.__init__" (defArgs s_UnknownName___init__) (defBody s_UnknownName___init__) (defScope s_UnknownName___init__) .none kV1600 dc1600 pm1600 an1600 cd1600 ct1600 | 1700 => PySem.W.fnOf "__init__" "NotAWeb.__init__" (defArgs s_NotAWeb___init__) (defBody s_NotAWeb___init__) (defScope s_NotAWeb___init__) .none kV1700 dc1700 pm1700 an1700 cd1700 ct1700 | 1800 => PySem.W.fnOf "__init__" "NotAShelf.__init__" (defArgs s_NotAShelf___init__) (defBody s_NotAShelf___init__) (defScope s_NotAShelf___init__) .none kV1800 dc1800 pm1800 an1800 cd1800 ct1800 | 1900 => PySem.W.fnOf "__init__" "InvalidSources.__init__" (defArgs s_InvalidSources___init__) (defBody s_InvalidSources___init__) (defScope s_InvalidSources___init__) .none kV1900 dc1900 pm1900 an1900 cd1900 ct1900 | 2000 => PySem.W.fnOf "__init__" "InvalidTold.__init__" (defArgs s_InvalidTold___init__) (defBody s_InvalidTold___init__) (defScope s_InvalidTold___init__) .none kV2000 dc2000 pm2000 an2000 cd2000 ct2000 | 2100 => PySem.W.fnOf "__init__" "InvalidWeights.__init__" (defArgs s_InvalidWeights___init__) (defBody s_InvalidWeights___init__) (defScope s_InvalidWeights___init__) .none kV2100 dc2100 pm2100 an2100 cd2100 ct2100 | 2200 => PySem.W.fnOf "__init__" "InvalidOffers.__init__" (defArgs s_InvalidOffers___init__) (defBody s_InvalidOffers___init__) (defScope s_InvalidOffers___init__) .none kV2200 dc2200 pm2200 an2200 cd2200 ct2200 | 2300 => PySem.W.fnOf "__init__" "InvalidFreed.__init__" (defArgs s_InvalidFreed___init__) (defBody s_InvalidFreed___init__) (defScope s_InvalidFreed___init__) .none kV2300 dc2300 pm2300 an2300 cd2300 ct2300 | 2500 => PySem.W.fnOf "__init__" "TooMany.__init__" (defArgs s_TooMany___init__) (defBody s_TooMany___init__) (defScope s_TooMany___init__) .none kV2500 dc2500 pm2500 an2500 cd2500 ct2500 | 2600 => PySem.W.fnOf "__init__" "FullSource.__init__" (defArgs s_FullSource___init__) (defBody s_FullSource___init__) (defScope s_FullSource___init__) .none kV2600 dc2600 pm2600 an2600 cd2600 ct2600 | 2700 => PySem.W.fnOf "__init__" "Broken.__init__" (defArgs s_Broken___init__) (defBody s_Broken___init__) (defScope s_Broken___init__) .none kV2700 dc2700 pm2700 an2700 cd2700 ct2700 | 2800 => PySem.W.fnOf "__init__" "InUse.__init__" (defArgs s_InUse___init__) (defBody s_InUse___init__) (defScope s_InUse___init__) .none kV2800 dc2800 pm2800 an2800 cd2800 ct2800 | _ => PySem.W.fnOf "law" "law" (defArgs s_law) (defBody s_law) (defScope s_law) .none kV37 dc37 pm37 an37 cd37 ct37) := ⟨PySem.W.mg_none_of X G z_len, PySem.W.mg_none_of X G z_int, PySem.W.mg_none_of X G z_abs, PySem.W.mg_none_of X G z_divmod, PySem.W.mg_none_of X G z_isinstance, PySem.W.mg_none_of X G z_repr, PySem.W.mg_none_of X G z_enumerate, PySem.W.mg_none_of X G z_ValueError, PySem.W.mg_none_of X G z_ArithmeticError, PySem.W.mg_none_of X G z_min, PySem.W.mg_none_of X G z_max, PySem.W.mg_none_of X G z_range, PySem.W.mg_none_of X G z_all, ⟨_, PySem.W.mg_of X G n_MOST_COPIES⟩, ⟨_, PySem.W.mg_of X G n_MOST_TOLD⟩, ⟨_, PySem.W.mg_of X G n_MOST_WEIGHT⟩, ⟨_, PySem.W.mg_of X G n_MOST_WALKED⟩, ⟨_, PySem.W.mg_of X G n_MOST_OFFERS⟩, ⟨_, PySem.W.mg_of X G n_MOST_FREED⟩, F30, PySem.W.mg_of X G a30, b30, F31, PySem.W.mg_of X G a31, b31, F32, PySem.W.mg_of X G a32, b32, F1000, b1000, F1100, b1100, F1200, b1200, F1300, b1300, F1400, b1400, F1500, b1500, F1600, b1600, F1700, b1700, F1800, b1800, F1900, b1900, F2000, b2000, F2100, b2100, F2200, b2200, F2300, b2300, F33, PySem.W.mg_of X G a33, b33, F2500, b2500, F2600, b2600, F2700, b2700, F2800, b2800, F34, PySem.W.mg_of X G a34, b34, F35, PySem.W.mg_of X G a35, b35, F36, PySem.W.mg_of X G a36, b36, F37, PySem.W.mg_of X G a37, b37, smb, PySem.W.mg_of X G aC0, PySem.W.mg_of X G aC1, PySem.W.mg_of X G aC2, PySem.W.mg_of X G aC3, PySem.W.mg_of X G aC4, PySem.W.mg_of X G aC5, PySem.W.mg_of X G aC6, PySem.W.mg_of X G aC7, PySem.W.mg_of X G aC8, PySem.W.mg_of X G aC9, PySem.W.mg_of X G aC10, PySem.W.mg_of X G aC11, PySem.W.mg_of X G aC12, PySem.W.mg_of X G aC13, PySem.W.mg_of X G aC14, PySem.W.mg_of X G aC15, PySem.W.mg_of X G aC16, PySem.W.mg_of X G aC17, PySem.W.mg_of X G aC18, PySem.W.mg_of X G aC19, PySem.W.mg_of X G aC20, PySem.W.mg_of X G aC21, oexG_VE (all_at xoVE_ (List.mem_of_getElem? (i := 0) rfl)), a1000, beq_iff_eq.mp i1000, (clsB_ok (tag_all (C := 0) cls_ (by decide)) on_ ot_).2.2 _ (by simp), oexG_VE (all_at xoVE_ (List.mem_of_getElem? (i := 1) rfl)), a1100, beq_iff_eq.mp i1100, (clsB_ok (tag_all (C := 1) cls_ (by decide)) on_ ot_).2.2 _ (by simp), oexG_VE (all_at xoVE_ (List.mem_of_getElem? (i := 2) rfl)), a1200, beq_iff_eq.mp i1200, (clsB_ok (tag_all (C := 2) cls_ (by decide)) on_ ot_).2.2 _ (by simp), oexG_VE (all_at xoVE_ (List.mem_of_getElem? (i := 3) rfl)), a1300, beq_iff_eq.mp i1300, (clsB_ok (tag_all (C := 3) cls_ (by decide)) on_ ot_).2.2 _ (by simp), oexG_VE (all_at xoVE_ (List.mem_of_getElem? (i := 4) rfl)), a1400, beq_iff_eq.mp i1400, (clsB_ok (tag_all (C := 4) cls_ (by decide)) on_ ot_).2.2 _ (by simp), oexG_VE (all_at xoVE_ (List.mem_of_getElem? (i := 5) rfl)), a1500, beq_iff_eq.mp i1500, (clsB_ok (tag_all (C := 5) cls_ (by decide)) on_ ot_).2.2 _ (by simp), oexG_VE (all_at xoVE_ (List.mem_of_getElem? (i := 6) rfl)), a1600, beq_iff_eq.mp i1600, (clsB_ok (tag_all (C := 6) cls_ (by decide)) on_ ot_).2.2 _ (by simp), oexG_VE (all_at xoVE_ (List.mem_of_getElem? (i := 7) rfl)), a1700, beq_iff_eq.mp i1700, (clsB_ok (tag_all (C := 7) cls_ (by decide)) on_ ot_).2.2 _ (by simp), oexG_VE (all_at xoVE_ (List.mem_of_getElem? (i := 8) rfl)), a1800, beq_iff_eq.mp i1800, (clsB_ok (tag_all (C := 8) cls_ (by decide)) on_ ot_).2.2 _ (by simp), oexG_VE (all_at xoVE_ (List.mem_of_getElem? (i := 9) rfl)), a1900, beq_iff_eq.mp i1900, (clsB_ok (tag_all (C := 9) cls_ (by decide)) on_ ot_).2.2 _ (by simp), oexG_VE (all_at xoVE_ (List.mem_of_getElem? (i := 10) rfl)), a2000, beq_iff_eq.mp i2000, (clsB_ok (tag_all (C := 10) cls_ (by decide)) on_ ot_).2.2 _ (by simp), oexG_VE (all_at xoVE_ (List.mem_of_getElem? (i := 11) rfl)), a2100, beq_iff_eq.mp i2100, (clsB_ok (tag_all (C := 11) cls_ (by decide)) on_ ot_).2.2 _ (by simp), oexG_VE (all_at xoVE_ (List.mem_of_getElem? (i := 12) rfl)), a2200, beq_iff_eq.mp i2200, (clsB_ok (tag_all (C := 12) cls_ (by decide)) on_ ot_).2.2 _ (by simp), oexG_VE (all_at xoVE_ (List.mem_of_getElem? (i := 13) rfl)), a2300, beq_iff_eq.mp i2300, (clsB_ok (tag_all (C := 13) cls_ (by decide)) on_ ot_).2.2 _ (by simp), (ex0_AE (all_at x0AE_ (List.mem_of_getElem? (i := 0) rfl))).1, (ex0_AE (all_at x0AE_ (List.mem_of_getElem? (i := 0) rfl))).2, oexG_AE (all_at xoAE_ (List.mem_of_getElem? (i := 0) rfl)), a2500, beq_iff_eq.mp i2500, (clsB_ok (tag_all (C := 15) cls_ (by decide)) on_ ot_).2.2 _ (by simp), oexG_AE (all_at xoAE_ (List.mem_of_getElem? (i := 1) rfl)), a2600, beq_iff_eq.mp i2600, (clsB_ok (tag_all (C := 16) cls_ (by decide)) on_ ot_).2.2 _ (by simp), oexG_AE (all_at xoAE_ (List.mem_of_getElem? (i := 2) rfl)), a2700, beq_iff_eq.mp i2700, (clsB_ok (tag_all (C := 17) cls_ (by decide)) on_ ot_).2.2 _ (by simp), (clsB_ok (tag_all (C := 17) cls_ (by decide)) on_ ot_).2.2 _ (by simp), oexG_AE (all_at xoAE_ (List.mem_of_getElem? (i := 3) rfl)), a2800, beq_iff_eq.mp i2800, (clsB_ok (tag_all (C := 18) cls_ (by decide)) on_ ot_).2.2 _ (by simp), (ex0_AE (all_at x0AE_ (List.mem_of_getElem? (i := 1) rfl))).1, (ex0_AE (all_at x0AE_ (List.mem_of_getElem? (i := 1) rfl))).2, fun C h => ⟨(clsB_ok (tag_all (C := C) cls_ h) on_ ot_).2.1, (clsB_ok (tag_all (C := C) cls_ h) on_ ot_).2.2 _ (by simp)⟩, fun C h => ⟨(clsB_ok (tag_all (C := C) cls_ h) on_ ot_).2.1, (clsB_ok (tag_all (C := C) cls_ h) on_ ot_).2.2 _ (by simp)⟩, fun C h => ⟨(clsB_ok (tag_all (C := C) cls_ h) on_ ot_).2.1, (clsB_ok (tag_all (C := C) cls_ h) on_ ot_).2.2 _ (by simp)⟩, fun C h => ⟨(clsB_ok (tag_all (C := C) cls_ h) on_ ot_).2.1, (clsB_ok (tag_all (C := C) cls_ h) on_ ot_).2.2 _ (by simp)⟩, fun C h => ⟨(clsB_ok (tag_all (C := C) cls_ h) on_ ot_).1, tag_map (L := ([C0, C1, C2, C3, C4, C5, C6, C7, C8, C9, C10, C11, C12, C13, C14, C15, C16, C17, C18, C19, C20, C21] : List Addr)) (f := fun D => PySem.W.kitOne K (.ref D) (.type "ArithmeticError")) (t := tabX_ArithmeticError) (b := 0) (n := 20) (C := C) kt_ArithmeticError h⟩, fun C h => ⟨(clsB_ok (tag_all (C := C) cls_ h) on_ ot_).1, tag_map (L := ([C0, C1, C2, C3, C4, C5, C6, C7, C8, C9, C10, C11, C12, C13, C14, C15, C16, C17, C18, C19, C20, C21] : List Addr)) (f := fun D => PySem.W.kitOne K (.ref D) (.ref C17)) (t := tabX_Broken) (b := 0) (n := 20) (C := C) kt_Broken h⟩, fun C h => ⟨(clsB_ok (tag_all (C := C) cls_ h) on_ ot_).1, tag_map (L := ([C0, C1, C2, C3, C4, C5, C6, C7, C8, C9, C10, C11, C12, C13, C14, C15, C16, C17, C18, C19, C20, C21] : List Addr)) (f := fun D => PySem.W.kitOne K (.ref D) (.ref C16)) (t := tabX_FullSource) (b := 0) (n := 20) (C := C) kt_FullSource h⟩, fun C h => ⟨(clsB_ok (tag_all (C := C) cls_ h) on_ ot_).1, tag_map (L := ([C0, C1, C2, C3, C4, C5, C6, C7, C8, C9, C10, C11, C12, C13, C14, C15, C16, C17, C18, C19, C20, C21] : List Addr)) (f := fun D => PySem.W.kitOne K (.ref D) (.ref C18)) (t := tabX_InUse) (b := 0) (n := 20) (C := C) kt_InUse h⟩, fun C h => ⟨(clsB_ok (tag_all (C := C) cls_ h) on_ ot_).1, tag_map (L := ([C0, C1, C2, C3, C4, C5, C6, C7, C8, C9, C10, C11, C12, C13, C14, C15, C16, C17, C18, C19, C20, C21] : List Addr)) (f := fun D => PySem.W.kitOne K (.ref D) (.ref C5)) (t := tabX_InvalidChoice) (b := 0) (n := 20) (C := C) kt_InvalidChoice h⟩, fun C h => ⟨(clsB_ok (tag_all (C := C) cls_ h) on_ ot_).1, tag_map (L := ([C0, C1, C2, C3, C4, C5, C6, C7, C8, C9, C10, C11, C12, C13, C14, C15, C16, C17, C18, C19, C20, C21] : List Addr)) (f := fun D => PySem.W.kitOne K (.ref D) (.ref C4)) (t := tabX_InvalidClaim) (b := 0) (n := 20) (C := C) kt_InvalidClaim h⟩, fun C h => ⟨(clsB_ok (tag_all (C := C) cls_ h) on_ ot_).1, tag_map (L := ([C0, C1, C2, C3, C4, C5, C6, C7, C8, C9, C10, C11, C12, C13, C14, C15, C16, C17, C18, C19, C20, C21] : List Addr)) (f := fun D => PySem.W.kitOne K (.ref D) (.ref C13)) (t := tabX_InvalidFreed) (b := 0) (n := 20) (C := C) kt_InvalidFreed h⟩, fun C h => ⟨(clsB_ok (tag_all (C := C) cls_ h) on_ ot_).1, tag_map (L := ([C0, C1, C2, C3, C4, C5, C6, C7, C8, C9, C10, C11, C12, C13, C14, C15, C16, C17, C18, C19, C20, C21] : List Addr)) (f := fun D => PySem.W.kitOne K (.ref D) (.ref C3)) (t := tabX_InvalidIndex) (b := 0) (n := 20) (C := C) kt_InvalidIndex h⟩, fun C h => ⟨(clsB_ok (tag_all (C := C) cls_ h) on_ ot_).1, tag_map (L := ([C0, C1, C2, C3, C4, C5, C6, C7, C8, C9, C10, C11, C12, C13, C14, C15, C16, C17, C18, C19, C20, C21] : List Addr)) (f := fun D => PySem.W.kitOne K (.ref D) (.ref C2)) (t := tabX_InvalidName) (b := 0) (n := 20) (C := C) kt_InvalidName h⟩, fun C h => ⟨(clsB_ok (tag_all (C := C) cls_ h) on_ ot_).1, tag_map (L := ([C0, C1, C2, C3, C4, C5, C6, C7, C8, C9, C10, C11, C12, C13, C14, C15, C16, C17, C18, C19, C20, C21] : List Addr)) (f := fun D => PySem.W.kitOne K (.ref D) (.ref C1)) (t := tabX_InvalidNumber) (b := 0) (n := 20) (C := C) kt_InvalidNumber h⟩, fun C h => ⟨(clsB_ok (tag_all (C := C) cls_ h) on_ ot_).1, tag_map (L := ([C0, C1, C2, C3, C4, C5, C6, C7, C8, C9, C10, C11, C12, C13, C14, C15, C16, C17, C18, C19, C20, C21] : List Addr)) (f := fun D => PySem.W.kitOne K (.ref D) (.ref C12)) (t := tabX_InvalidOffers) (b := 0) (n := 20) (C := C) kt_InvalidOffers h⟩, fun C h => ⟨(clsB_ok (tag_all (C := C) cls_ h) on_ ot_).1, tag_map (L := ([C0, C1, C2, C3, C4, C5, C6, C7, C8, C9, C10, C11, C12, C13, C14, C15, C16, C17, C18, C19, C20, C21] : List Addr)) (f := fun D => PySem.W.kitOne K (.ref D) (.ref C9)) (t := tabX_InvalidSources) (b := 0) (n := 20) (C := C) kt_InvalidSources h⟩, fun C h => ⟨(clsB_ok (tag_all (C := C) cls_ h) on_ ot_).1, tag_map (L := ([C0, C1, C2, C3, C4, C5, C6, C7, C8, C9, C10, C11, C12, C13, C14, C15, C16, C17, C18, C19, C20, C21] : List Addr)) (f := fun D => PySem.W.kitOne K (.ref D) (.ref C0)) (t := tabX_InvalidText) (b := 0) (n := 20) (C := C) kt_InvalidText h⟩, fun C h => ⟨(clsB_ok (tag_all (C := C) cls_ h) on_ ot_).1, tag_map (L := ([C0, C1, C2, C3, C4, C5, C6, C7, C8, C9, C10, C11, C12, C13, C14, C15, C16, C17, C18, C19, C20, C21] : List Addr)) (f := fun D => PySem.W.kitOne K (.ref D) (.ref C10)) (t := tabX_InvalidTold) (b := 0) (n := 20) (C := C) kt_InvalidTold h⟩, fun C h => ⟨(clsB_ok (tag_all (C := C) cls_ h) on_ ot_).1, tag_map (L := ([C0, C1, C2, C3, C4, C5, C6, C7, C8, C9, C10, C11, C12, C13, C14, C15, C16, C17, C18, C19, C20, C21] : List Addr)) (f := fun D => PySem.W.kitOne K (.ref D) (.ref C11)) (t := tabX_InvalidWeights) (b := 0) (n := 20) (C := C) kt_InvalidWeights h⟩, fun C h => ⟨(clsB_ok (tag_all (C := C) cls_ h) on_ ot_).1, tag_map (L := ([C0, C1, C2, C3, C4, C5, C6, C7, C8, C9, C10, C11, C12, C13, C14, C15, C16, C17, C18, C19, C20, C21] : List Addr)) (f := fun D => PySem.W.kitOne K (.ref D) (.ref C21)) (t := tabX_NoAnswer) (b := 0) (n := 20) (C := C) kt_NoAnswer h⟩, fun C h => ⟨(clsB_ok (tag_all (C := C) cls_ h) on_ ot_).1, tag_map (L := ([C0, C1, C2, C3, C4, C5, C6, C7, C8, C9, C10, C11, C12, C13, C14, C15, C16, C17, C18, C19, C20, C21] : List Addr)) (f := fun D => PySem.W.kitOne K (.ref D) (.ref C14)) (t := tabX_NoChoice) (b := 0) (n := 20) (C := C) kt_NoChoice h⟩, fun C h => ⟨(clsB_ok (tag_all (C := C) cls_ h) on_ ot_).1, tag_map (L := ([C0, C1, C2, C3, C4, C5, C6, C7, C8, C9, C10, C11, C12, C13, C14, C15, C16, C17, C18, C19, C20, C21] : List Addr)) (f := fun D => PySem.W.kitOne K (.ref D) (.ref C8)) (t := tabX_NotAShelf) (b := 0) (n := 20) (C := C) kt_NotAShelf h⟩, fun C h => ⟨(clsB_ok (tag_all (C := C) cls_ h) on_ ot_).1, tag_map (L := ([C0, C1, C2, C3, C4, C5, C6, C7, C8, C9, C10, C11, C12, C13, C14, C15, C16, C17, C18, C19, C20, C21] : List Addr)) (f := fun D => PySem.W.kitOne K (.ref D) (.ref C7)) (t := tabX_NotAWeb) (b := 0) (n := 20) (C := C) kt_NotAWeb h⟩, fun C h => ⟨(clsB_ok (tag_all (C := C) cls_ h) on_ ot_).1, tag_map (L := ([C0, C1, C2, C3, C4, C5, C6, C7, C8, C9, C10, C11, C12, C13, C14, C15, C16, C17, C18, C19, C20, C21] : List Addr)) (f := fun D => PySem.W.kitOne K (.ref D) (.ref C19)) (t := tabX_NothingToUndo) (b := 0) (n := 20) (C := C) kt_NothingToUndo h⟩, fun C h => ⟨(clsB_ok (tag_all (C := C) cls_ h) on_ ot_).1, tag_map (L := ([C0, C1, C2, C3, C4, C5, C6, C7, C8, C9, C10, C11, C12, C13, C14, C15, C16, C17, C18, C19, C20, C21] : List Addr)) (f := fun D => PySem.W.kitOne K (.ref D) (.ref C15)) (t := tabX_TooMany) (b := 0) (n := 20) (C := C) kt_TooMany h⟩, fun C h => ⟨(clsB_ok (tag_all (C := C) cls_ h) on_ ot_).1, tag_map (L := ([C0, C1, C2, C3, C4, C5, C6, C7, C8, C9, C10, C11, C12, C13, C14, C15, C16, C17, C18, C19, C20, C21] : List Addr)) (f := fun D => PySem.W.kitOne K (.ref D) (.ref C6)) (t := tabX_UnknownName) (b := 0) (n := 20) (C := C) kt_UnknownName h⟩, fun C h => ⟨(clsB_ok (tag_all (C := C) cls_ h) on_ ot_).1, tag_map (L := ([C0, C1, C2, C3, C4, C5, C6, C7, C8, C9, C10, C11, C12, C13, C14, C15, C16, C17, C18, C19, C20, C21] : List Addr)) (f := fun D => PySem.W.kitOne K (.ref D) (.type "ValueError")) (t := tabX_ValueError) (b := 0) (n := 20) (C := C) kt_ValueError h⟩, fun C h => ⟨(clsB_ok (tag_all (C := C) cls_ h) on_ ot_).1, tag_map (L := ([C0, C1, C2, C3, C4, C5, C6, C7, C8, C9, C10, C11, C12, C13, C14, C15, C16, C17, C18, C19, C20, C21] : List Addr)) (f := fun D => PySem.W.kitOne K (.ref D) (.ref C20)) (t := tabX_WrongValue) (b := 0) (n := 20) (C := C) kt_WrongValue h⟩⟩
  exact FnG.imp (ok_law T) (spLaw_of maths)
end K01
open PySem PySem.W PyProof.Rows
set_option maxRecDepth 100000 in
set_option maxHeartbeats 0 in
theorem PySem.Challenge.cw_basetrees_k01_constants_and_errors_holds : PySem.Challenge.rw_basetrees_k01_constants_and_errors.Holds := by
  w_on; o_law; k_head; (case hw => w_witness2)
  k_fill
  refine Dn.walk_law (l := PySem.Challenge.rw_basetrees_k01_constants_and_errors) (k := 5) (x := "_law_script") rfl rfl ⟨rfl, by decide, by decide⟩ (fun w h Y => PySem.W.kIn_of Y) ?L ?I ?F
  case L => (intro w; kernel_rfl)
  case I => kernel_rfl
  case F =>
    intro w mg fa h KX G hmg
    refine' K01.all_mk KX G hmg ?aC0 ?aC1 ?aC2 ?aC3 ?aC4 ?aC5 ?aC6 ?aC7 ?aC8 ?aC9 ?aC10 ?aC11 ?aC12 ?aC13 ?aC14 ?aC15 ?aC16 ?aC17 ?aC18 ?aC19 ?aC20 ?aC21 ?xoVE_ ?xoAE_ ?x0AE_ ?on_ ?ot_ ?cls_ ?a30 ?l30 ?c30 ?k30 ?a31 ?l31 ?c31 ?k31 ?a32 ?l32 ?c32 ?k32 ?a1000 ?i1000 ?l1000 ?c1000 ?k1000 ?a1100 ?i1100 ?l1100 ?c1100 ?k1100 ?a1200 ?i1200 ?l1200 ?c1200 ?k1200 ?a1300 ?i1300 ?l1300 ?c1300 ?k1300 ?a1400 ?i1400 ?l1400 ?c1400 ?k1400 ?a1500 ?i1500 ?l1500 ?c1500 ?k1500 ?a1600 ?i1600 ?l1600 ?c1600 ?k1600 ?a1700 ?i1700 ?l1700 ?c1700 ?k1700 ?a1800 ?i1800 ?l1800 ?c1800 ?k1800 ?a1900 ?i1900 ?l1900 ?c1900 ?k1900 ?a2000 ?i2000 ?l2000 ?c2000 ?k2000 ?a2100 ?i2100 ?l2100 ?c2100 ?k2100 ?a2200 ?i2200 ?l2200 ?c2200 ?k2200 ?a2300 ?i2300 ?l2300 ?c2300 ?k2300 ?a33 ?l33 ?c33 ?k33 ?a2500 ?i2500 ?l2500 ?c2500 ?k2500 ?a2600 ?i2600 ?l2600 ?c2600 ?k2600 ?a2700 ?i2700 ?l2700 ?c2700 ?k2700 ?a2800 ?i2800 ?l2800 ?c2800 ?k2800 ?a34 ?l34 ?c34 ?k34 ?a35 ?l35 ?c35 ?k35 ?a36 ?l36 ?c36 ?k36 ?a37 ?l37 ?c37 ?k37 ?z_len ?z_int ?z_abs ?z_divmod ?z_isinstance ?z_repr ?z_enumerate ?z_ValueError ?z_ArithmeticError ?z_min ?z_max ?z_range ?z_all ?n_MOST_COPIES ?n_MOST_TOLD ?n_MOST_WEIGHT ?n_MOST_WALKED ?n_MOST_OFFERS ?n_MOST_FREED ?kt_ArithmeticError ?kt_Broken ?kt_FullSource ?kt_InUse ?kt_InvalidChoice ?kt_InvalidClaim ?kt_InvalidFreed ?kt_InvalidIndex ?kt_InvalidName ?kt_InvalidNumber ?kt_InvalidOffers ?kt_InvalidSources ?kt_InvalidText ?kt_InvalidTold ?kt_InvalidWeights ?kt_NoAnswer ?kt_NoChoice ?kt_NotAShelf ?kt_NotAWeb ?kt_NothingToUndo ?kt_TooMany ?kt_UnknownName ?kt_ValueError ?kt_WrongValue
    (case aC0 => k_is)
    (case aC1 => k_is)
    (case aC2 => k_is)
    (case aC3 => k_is)
    (case aC4 => k_is)
    (case aC5 => k_is)
    (case aC6 => k_is)
    (case aC7 => k_is)
    (case aC8 => k_is)
    (case aC9 => k_is)
    (case aC10 => k_is)
    (case aC11 => k_is)
    (case aC12 => k_is)
    (case aC13 => k_is)
    (case aC14 => k_is)
    (case aC15 => k_is)
    (case aC16 => k_is)
    (case aC17 => k_is)
    (case aC18 => k_is)
    (case aC19 => k_is)
    (case aC20 => k_is)
    (case aC21 => k_is)
    (case xoVE_ => kernel_rfl)
    (case xoAE_ => kernel_rfl)
    (case x0AE_ => kernel_rfl)
    (case on_ => k_is)
    (case ot_ => k_is)
    (case cls_ => kernel_rfl)
    (case a30 => k_is)
    (case l30 => k_is)
    (case c30 => k_is)
    (case k30 => k_is)
    (case a31 => k_is)
    (case l31 => k_is)
    (case c31 => k_is)
    (case k31 => k_is)
    (case a32 => k_is)
    (case l32 => k_is)
    (case c32 => k_is)
    (case k32 => k_is)
    (case a1000 => k_is)
    (case i1000 => k_is)
    (case l1000 => k_is)
    (case c1000 => k_is)
    (case k1000 => k_is)
    (case a1100 => k_is)
    (case i1100 => k_is)
    (case l1100 => k_is)
    (case c1100 => k_is)
    (case k1100 => k_is)
    (case a1200 => k_is)
    (case i1200 => k_is)
    (case l1200 => k_is)
    (case c1200 => k_is)
    (case k1200 => k_is)
    (case a1300 => k_is)
    (case i1300 => k_is)
    (case l1300 => k_is)
    (case c1300 => k_is)
    (case k1300 => k_is)
    (case a1400 => k_is)
    (case i1400 => k_is)
    (case l1400 => k_is)
    (case c1400 => k_is)
    (case k1400 => k_is)
    (case a1500 => k_is)
    (case i1500 => k_is)
    (case l1500 => k_is)
    (case c1500 => k_is)
    (case k1500 => k_is)
    (case a1600 => k_is)
    (case i1600 => k_is)
    (case l1600 => k_is)
    (case c1600 => k_is)
    (case k1600 => k_is)
    (case a1700 => k_is)
    (case i1700 => k_is)
    (case l1700 => k_is)
    (case c1700 => k_is)
    (case k1700 => k_is)
    (case a1800 => k_is)
    (case i1800 => k_is)
    (case l1800 => k_is)
    (case c1800 => k_is)
    (case k1800 => k_is)
    (case a1900 => k_is)
    (case i1900 => k_is)
    (case l1900 => k_is)
    (case c1900 => k_is)
    (case k1900 => k_is)
    (case a2000 => k_is)
    (case i2000 => k_is)
    (case l2000 => k_is)
    (case c2000 => k_is)
    (case k2000 => k_is)
    (case a2100 => k_is)
    (case i2100 => k_is)
    (case l2100 => k_is)
    (case c2100 => k_is)
    (case k2100 => k_is)
    (case a2200 => k_is)
    (case i2200 => k_is)
    (case l2200 => k_is)
    (case c2200 => k_is)
    (case k2200 => k_is)
    (case a2300 => k_is)
    (case i2300 => k_is)
    (case l2300 => k_is)
    (case c2300 => k_is)
    (case k2300 => k_is)
    (case a33 => k_is)
    (case l33 => k_is)
    (case c33 => k_is)
    (case k33 => k_is)
    (case a2500 => k_is)
    (case i2500 => k_is)
    (case l2500 => k_is)
    (case c2500 => k_is)
    (case k2500 => k_is)
    (case a2600 => k_is)
    (case i2600 => k_is)
    (case l2600 => k_is)
    (case c2600 => k_is)
    (case k2600 => k_is)
    (case a2700 => k_is)
    (case i2700 => k_is)
    (case l2700 => k_is)
    (case c2700 => k_is)
    (case k2700 => k_is)
    (case a2800 => k_is)
    (case i2800 => k_is)
    (case l2800 => k_is)
    (case c2800 => k_is)
    (case k2800 => k_is)
    (case a34 => k_is)
    (case l34 => k_is)
    (case c34 => k_is)
    (case k34 => k_is)
    (case a35 => k_is)
    (case l35 => k_is)
    (case c35 => k_is)
    (case k35 => k_is)
    (case a36 => k_is)
    (case l36 => k_is)
    (case c36 => k_is)
    (case k36 => k_is)
    (case a37 => k_is)
    (case l37 => k_is)
    (case c37 => k_is)
    (case k37 => k_is)
    (case z_len => k_is)
    (case z_int => k_is)
    (case z_abs => k_is)
    (case z_divmod => k_is)
    (case z_isinstance => k_is)
    (case z_repr => k_is)
    (case z_enumerate => k_is)
    (case z_ValueError => k_is)
    (case z_ArithmeticError => k_is)
    (case z_min => k_is)
    (case z_max => k_is)
    (case z_range => k_is)
    (case z_all => k_is)
    (case n_MOST_COPIES => k_is)
    (case n_MOST_TOLD => k_is)
    (case n_MOST_WEIGHT => k_is)
    (case n_MOST_WALKED => k_is)
    (case n_MOST_OFFERS => k_is)
    (case n_MOST_FREED => k_is)
    (case kt_ArithmeticError => kernel_rfl)
    (case kt_Broken => kernel_rfl)
    (case kt_FullSource => kernel_rfl)
    (case kt_InUse => kernel_rfl)
    (case kt_InvalidChoice => kernel_rfl)
    (case kt_InvalidClaim => kernel_rfl)
    (case kt_InvalidFreed => kernel_rfl)
    (case kt_InvalidIndex => kernel_rfl)
    (case kt_InvalidName => kernel_rfl)
    (case kt_InvalidNumber => kernel_rfl)
    (case kt_InvalidOffers => kernel_rfl)
    (case kt_InvalidSources => kernel_rfl)
    (case kt_InvalidText => kernel_rfl)
    (case kt_InvalidTold => kernel_rfl)
    (case kt_InvalidWeights => kernel_rfl)
    (case kt_NoAnswer => kernel_rfl)
    (case kt_NoChoice => kernel_rfl)
    (case kt_NotAShelf => kernel_rfl)
    (case kt_NotAWeb => kernel_rfl)
    (case kt_NothingToUndo => kernel_rfl)
    (case kt_TooMany => kernel_rfl)
    (case kt_UnknownName => kernel_rfl)
    (case kt_ValueError => kernel_rfl)
    (case kt_WrongValue => kernel_rfl)
