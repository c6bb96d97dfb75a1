import PyProof.Rows.All
import Wide.All
import OpenK.AllK
import Wide.FinOn
import HandS.ForMost
import HandS.ForExc
import HandS.IsInst
import HandS.Deep
import HandS.Conv
import HandS.Zip
import HandS.Evl
import HandS.Walk
import HandS.Flow
import HandS.TupAny
import HandS.TupMul
import HandS.TupLe
import HandS.Text
import KE.GoesEnum
import HandS.Iter
import HandS.More
import HandS.NoneIn
import HandS.Dict
import PyProof.SumWalkG
import PyProof.WalksMore
import HandS.Defaults
import KE.KDictZip
import KE.GoesZip
import KE.GoesMore
import HandS.Style
import PySem.Challenge.RW_basetrees_k53_whole_lots_judged
set_option Elab.async false
set_option linter.all false
set_option maxRecDepth 100000
set_option maxHeartbeats 2000000
namespace Dn
open PySem L2
/-- where the classes stand -/
class CTab where
  ct : Nat → Addr
  inj : ∀ i j, ct i = ct j → i = j
variable [CTab]

/-! ### heaps: a step from (B, H) to (B2, H2). B is the part of the heap that stands for good -/
structure Go (B H B2 H2 : Hp) : Prop where
  h : Same H H2
  b : Same B B2
  bh : Same B2 H2
  fr : ∀ a o, B2 a = some o → B a = some o ∨ H a = none
theorem Go.refl {B H : Hp} (s : Same B H) : Go B H B H := ⟨Same.refl H, Same.refl B, s, fun _ _ e => .inl e⟩
theorem Go.trans {B H B1 H1 B2 H2 : Hp} (x : Go B H B1 H1) (y : Go B1 H1 B2 H2) : Go B H B2 H2 :=
  ⟨x.h.trans y.h, x.b.trans y.b, y.bh, fun a o e => by
    rcases y.fr a o e with z | z
    · exact x.fr a o z
    · exact .inr (x.h.free z)⟩
/-- a new object, kept for good -/
theorem Go.new {B H : Hp} (s : Same B H) {p : Addr} {o : HO} (hp : H p = none) : Go B H (upd B p o) (upd H p o) := by
  refine ⟨fun b u e => ?_, fun b u e => ?_, fun b u e => ?_, fun b u e => ?_⟩
  · rw [upd_ne (ne_of_none e hp)]; exact e
  · rw [upd_ne (ne_of_none (s b u e) hp)]; exact e
  · by_cases hb : b = p
    · subst hb; rw [upd_same] at e ⊢; exact e
    · rw [upd_ne hb] at e ⊢; exact s b u e
  · by_cases hb : b = p
    · subst hb; exact .inr hp
    · rw [upd_ne hb] at e; exact .inl e
/-- a new object, one's own (it may change) -/
theorem Go.own {B H : Hp} (s : Same B H) {p : Addr} {o : HO} (hp : H p = none) : Go B H B (upd H p o) := by
  refine ⟨fun b u e => ?_, Same.refl B, fun b u e => ?_, fun b u e => .inl e⟩
  · rw [upd_ne (ne_of_none e hp)]; exact e
  · rw [upd_ne (ne_of_none (s b u e) hp)]; exact s b u e
/-- one's own object changes -/
theorem Go.mut {B0 H0 B H : Hp} (g : Go B0 H0 B H) {p : Addr} {o : HO} (h0 : H0 p = none) (hb : B p = none) : Go B0 H0 B (upd H p o) := by
  refine ⟨fun b u e => ?_, g.b, fun b u e => ?_, g.fr⟩
  · rw [upd_ne (ne_of_none e h0)]; exact g.h b u e
  · rw [upd_ne (ne_of_none e hb)]; exact g.bh b u e
/-- one's own object is kept for good from here on -/
theorem Go.keep {B0 H0 B H : Hp} (g : Go B0 H0 B H) {p : Addr} {o : HO} (h0 : H0 p = none) (hb : B p = none) (hp : H p = some o) : Go B0 H0 (upd B p o) H := by
  refine ⟨g.h, fun b u e => ?_, fun b u e => ?_, fun b u e => ?_⟩
  · rw [upd_ne (ne_of_none (g.b b u e) hb)]; exact g.b b u e
  · by_cases q : b = p
    · subst q; rw [upd_same] at e; rw [hp]; exact e
    · rw [upd_ne q] at e; exact g.bh b u e
  · by_cases q : b = p
    · subst q; exact .inr h0
    · rw [upd_ne q] at e; exact g.fr b u e
theorem Go.noB {B H B2 H2 : Hp} (g : Go B H B2 H2) {p : Addr} {o : HO} (hb : B p = none) (hp : H p = some o) : B2 p = none := by
  cases q : B2 p with
  | none => rfl
  | some u =>
    rcases g.fr p u q with z | z
    · rw [hb] at z; cases z
    · rw [hp] at z; cases z
theorem same_upd {B H : Hp} (s : Same B H) {p : Addr} {o : HO} (hb : B p = none) : Same B (upd H p o) := fun b u e => by
  rw [upd_ne (ne_of_none e hb)]; exact s b u e

/-- where one stands, seen from B -/
structure At (B B1 H1 : Hp) : Prop where
  b : Same B B1
  bh : Same B1 H1
theorem At.refl {B H : Hp} (s : Same B H) : At B B H := ⟨Same.refl B, s⟩
theorem At.trans {B B1 H1 B2 H2 : Hp} (x : At B B1 H1) (y : Go B1 H1 B2 H2) : At B B2 H2 := ⟨x.b.trans y.b, y.bh⟩
theorem Go.at {B H B1 H1 : Hp} (g : Go B H B1 H1) : At B B1 H1 := ⟨g.b, g.bh⟩
instance {B H B1 H1 : Hp} : CoeOut (Go B H B1 H1) (At B B1 H1) := ⟨Go.at⟩
theorem At.tr {B B1 H1 B2 H2 : Hp} (x : At B B1 H1) (y : At B1 B2 H2) : At B B2 H2 := ⟨x.b.trans y.b, y.bh⟩

/-! ### data -/
inductive U where
  | non | bl (b : Bool) | int (i : Int) | str (s : Str)
  | tup (xs : List U) | lst (xs : List U)
  /-- a locked list: the script, or one's own list while it is looked at -/
  | frl (xs : List U)
  | dic (kvs : List (Key × U))
  | dit (kvs : List (List Key × U))
  /-- an instance -/
  | obj (C : Nat) (fs : List (Str × U))
/-! ### what a value stands for, in the part that stands for good -/
mutual
inductive Rp (B : Hp) : U → V → Prop
  | non : Rp B .non .non
  | bl (b : Bool) : Rp B (.bl b) (.bl b)
  | int (i : Int) : Rp B (.int i) (.int i)
  | str (s : Str) : Rp B (.str s) (.str s)
  | tup {a : Addr} {xs : List U} {vs : List V} : B a = some (.tup vs) → Rps B xs vs → Rp B (.tup xs) (.ref a)
  | lst {a : Addr} {xs : List U} {vs : List V} : B a = some (.lst vs) → Rps B xs vs → Rp B (.lst xs) (.ref a)
  | frl {a : Addr} {xs : List U} {vs : List V} {o : Obj} : B a = some (.frz o (.lst vs)) → Rps B xs vs → Rp B (.frl xs) (.ref a)
  | dic {a : Addr} {kvs : List (Key × U)} {es : List (Key × V)} {o : Obj} : B a = some (.frz o (.dK es)) → Rpk B kvs es → Rp B (.dic kvs) (.ref a)
  | dit {a : Addr} {kvs : List (List Key × U)} {es : List (List Key × V)} {o : Obj} : B a = some (.frz o (.dT es)) → Rpt B kvs es → Rp B (.dit kvs) (.ref a)
  | obj {a dx : Addr} {C : Nat} {fs : List (Str × U)} {es : List (Str × V)} : B a = some (.ins (CTab.ct C) dx es) → B dx = some (.own a) → Rpf B fs es → Rp B (.obj C fs) (.ref a)
inductive Rps (B : Hp) : List U → List V → Prop
  | nil : Rps B [] []
  | cons {x : U} {v : V} {xs : List U} {vs : List V} : Rp B x v → Rps B xs vs → Rps B (x :: xs) (v :: vs)
inductive Rpk (B : Hp) : List (Key × U) → List (Key × V) → Prop
  | nil : Rpk B [] []
  | cons {k : Key} {x : U} {v : V} {xs : List (Key × U)} {vs : List (Key × V)} : Rp B x v → Rpk B xs vs → Rpk B ((k, x) :: xs) ((k, v) :: vs)
inductive Rpt (B : Hp) : List (List Key × U) → List (List Key × V) → Prop
  | nil : Rpt B [] []
  | cons {k : List Key} {x : U} {v : V} {xs : List (List Key × U)} {vs : List (List Key × V)} : Rp B x v → Rpt B xs vs → Rpt B ((k, x) :: xs) ((k, v) :: vs)
inductive Rpf (B : Hp) : List (Str × U) → List (Str × V) → Prop
  | nil : Rpf B [] []
  | cons {k : Str} {x : U} {v : V} {xs : List (Str × U)} {vs : List (Str × V)} : Rp B x v → Rpf B xs vs → Rpf B ((k, x) :: xs) ((k, v) :: vs)
end
/-- what keeps the readings -/
structure Kp (B B' : Hp) : Prop where
  tup : ∀ a xs, B a = some (.tup xs) → B' a = some (.tup xs)
  lst : ∀ a xs, B a = some (.lst xs) → B' a = some (.lst xs)
  frz : ∀ a o u, B a = some (.frz o u) → B' a = some (.frz o u)
  ins : ∀ a C dx xs, B a = some (.ins C dx xs) → B' a = some (.ins C dx xs)
  own : ∀ a x, B a = some (.own x) → B' a = some (.own x)
theorem rd_same {B B' : Hp} {a : Addr} {u : HO} (s : Same B B') (h : Rd B a u) : Rd B' a u := by
  rcases h with h | ⟨o, h⟩
  · exact .inl (s _ _ h)
  · exact .inr ⟨o, s _ _ h⟩
theorem Kp.of {B B' : Hp} (s : Same B B') : Kp B B' := ⟨fun _ _ => s _ _, fun _ _ => s _ _, fun _ _ _ => s _ _, fun _ _ _ _ => s _ _, fun _ _ => s _ _⟩
section
variable {B B' : Hp}
mutual
theorem Rp.kp (s : Kp B B') : ∀ {u : U} {v : V}, Rp B u v → Rp B' u v
  | _, _, .non => .non
  | _, _, .bl b => .bl b
  | _, _, .int i => .int i
  | _, _, .str x => .str x
  | _, _, .tup h r => .tup (s.tup _ _ h) (Rps.kp s r)
  | _, _, .lst h r => .lst (s.lst _ _ h) (Rps.kp s r)
  | _, _, .frl h r => .frl (s.frz _ _ _ h) (Rps.kp s r)
  | _, _, .dic h r => .dic (s.frz _ _ _ h) (Rpk.kp s r)
  | _, _, .dit h r => .dit (s.frz _ _ _ h) (Rpt.kp s r)
  | _, _, .obj h k r => .obj (s.ins _ _ _ _ h) (s.own _ _ k) (Rpf.kp s r)
theorem Rps.kp (s : Kp B B') : ∀ {u : List U} {v : List V}, Rps B u v → Rps B' u v
  | _, _, .nil => .nil
  | _, _, .cons h r => .cons (Rp.kp s h) (Rps.kp s r)
theorem Rpk.kp (s : Kp B B') : ∀ {u : List (Key × U)} {v : List (Key × V)}, Rpk B u v → Rpk B' u v
  | _, _, .nil => .nil
  | _, _, .cons h r => .cons (Rp.kp s h) (Rpk.kp s r)
theorem Rpt.kp (s : Kp B B') : ∀ {u : List (List Key × U)} {v : List (List Key × V)}, Rpt B u v → Rpt B' u v
  | _, _, .nil => .nil
  | _, _, .cons h r => .cons (Rp.kp s h) (Rpt.kp s r)
theorem Rpf.kp (s : Kp B B') : ∀ {u : List (Str × U)} {v : List (Str × V)}, Rpf B u v → Rpf B' u v
  | _, _, .nil => .nil
  | _, _, .cons h r => .cons (Rp.kp s h) (Rpf.kp s r)
end
end
theorem Rp.upA {B B2 H2 : Hp} {u : U} {v : V} (r : Rp B u v) (g : At B B2 H2) : Rp B2 u v := r.kp (Kp.of g.b)
theorem Rp.up {B H B2 H2 : Hp} {u : U} {v : V} (r : Rp B u v) (g : Go B H B2 H2) : Rp B2 u v := r.kp (Kp.of g.b)
theorem Rps.up {B H B2 H2 : Hp} {u : List U} {v : List V} (r : Rps B u v) (g : Go B H B2 H2) : Rps B2 u v := r.kp (Kp.of g.b)
theorem Rp.in {B H : Hp} {u : U} {v : V} (r : Rp B u v) (s : Same B H) : Rp H u v := r.kp (Kp.of s)
theorem Rps.in {B H : Hp} {u : List U} {v : List V} (r : Rps B u v) (s : Same B H) : Rps H u v := r.kp (Kp.of s)
section
variable {B : Hp}
theorem Rps.length : ∀ {xs : List U} {vs : List V}, Rps B xs vs → vs.length = xs.length
  | _, _, .nil => rfl
  | _, _, .cons _ t => by rw [List.length_cons, List.length_cons, Rps.length t]
theorem Rps.get : ∀ {xs : List U} {vs : List V} {i : Nat} {x : U}, Rps B xs vs → xs[i]? = some x → ∃ v, vs[i]? = some v ∧ Rp B x v
  | _, _, _, _, .nil, e => by simp at e
  | _, _, 0, _, .cons h _, e => by simp at e; subst e; exact ⟨_, rfl, h⟩
  | _, _, i + 1, x, .cons _ t, e => by
    obtain ⟨v, h1, h2⟩ := Rps.get (i := i) (x := x) t (by simpa using e)
    exact ⟨v, by simpa using h1, h2⟩
theorem Rps.back : ∀ {xs : List U} {vs : List V} {i : Nat} {v : V}, Rps B xs vs → vs[i]? = some v → ∃ x, xs[i]? = some x ∧ Rp B x v
  | _, _, _, _, .nil, e => by simp at e
  | _, _, 0, _, .cons h _, e => by simp at e; subst e; exact ⟨_, rfl, h⟩
  | _, _, i + 1, v, .cons _ t, e => by
    obtain ⟨x, h1, h2⟩ := Rps.back (i := i) (v := v) t (by simpa using e)
    exact ⟨x, by simpa using h1, h2⟩
theorem Rps.append : ∀ {xs ys : List U} {vs ws : List V}, Rps B xs vs → Rps B ys ws → Rps B (xs ++ ys) (vs ++ ws)
  | _, _, _, _, .nil, s => s
  | _, _, _, _, .cons h t, s => .cons h (Rps.append t s)
theorem Rps.one {x : U} {v : V} (h : Rp B x v) : Rps B [x] [v] := .cons h .nil
theorem Rps.take : ∀ {xs : List U} {vs : List V} (n : Nat), Rps B xs vs → Rps B (xs.take n) (vs.take n)
  | _, _, 0, _ => by simp; exact .nil
  | _, _, _ + 1, .nil => .nil
  | _, _, n + 1, .cons h t => .cons h (Rps.take n t)
theorem Rps.drop : ∀ {xs : List U} {vs : List V} (n : Nat), Rps B xs vs → Rps B (xs.drop n) (vs.drop n)
  | _, _, 0, h => h
  | _, _, _ + 1, .nil => .nil
  | _, _, n + 1, .cons _ t => Rps.drop n t
theorem Rps.ints : ∀ (ns : List Int), Rps B (ns.map U.int) (ns.map V.int)
  | [] => .nil
  | n :: ns => .cons (.int n) (Rps.ints ns)
end

/-! ### what an expression comes to: none where nothing is said -/
def EvO (te : TE) (σ : St) (B H : Hp) (o : Option U) : Prop :=
  ∀ z, o = some z → ∀ B1 H1, At B B1 H1 → ∀ Q : VK, (∀ v B2 H2, Go B1 H1 B2 H2 → Rp B2 z v → Q v H2) → te σ H1 Q
def EvT (tt : TT) (σ : St) (B H : Hp) (o : Option Bool) : Prop :=
  ∀ z, o = some z → ∀ B1 H1, At B B1 H1 → ∀ Q : Bool → Hp → Prop, (∀ B2 H2, Go B1 H1 B2 H2 → Q z H2) → tt σ H1 Q
def EvA (ta : TA) (σ : St) (B H : Hp) (o : Option (List U)) : Prop :=
  ∀ z, o = some z → ∀ B1 H1, At B B1 H1 → ∀ Q : List V → Hp → Prop, (∀ v B2 H2, Go B1 H1 B2 H2 → Rps B2 z v → Q v H2) → ta σ H1 Q
def U.asB : U → Option Bool
  | .bl b => some b
  | _ => none
def andO (a b : Option Bool) : Option Bool := a.bind fun x => if x = true then b else some false
def orO (a b : Option Bool) : Option Bool := a.bind fun x => if x = true then some true else b
def notO (a : Option Bool) : Option Bool := a.map fun x => !x
def andV (a b : Option U) : Option U := (a.bind U.asB).bind fun x => if x = true then b else some (.bl false)
def orV (a b : Option U) : Option U := (a.bind U.asB).bind fun x => if x = true then some (.bl true) else b
def notV (a : Option U) : Option U := (a.bind U.asB).map fun x => .bl (!x)
def ifO {α : Type} (c : Option Bool) (a b : Option α) : Option α := c.bind fun x => if x = true then a else b
def consO (a : Option U) (b : Option (List U)) : Option (List U) := a.bind fun x => b.map fun r => x :: r
section
variable {α β : Type}
theorem bind_some {o : Option α} {f : α → Option β} {z : β} (h : o.bind f = some z) : ∃ x, o = some x ∧ f x = some z := by
  cases o with
  | none => cases h
  | some x => exact ⟨x, rfl, h⟩
theorem map_some {o : Option α} {f : α → β} {z : β} (h : o.map f = some z) : ∃ x, o = some x ∧ f x = z := by
  cases o with
  | none => cases h
  | some x => exact ⟨x, rfl, Option.some.inj h⟩
end
section
variable {σ : St} {B H B1 H1 : Hp} {ta tb te tc : TE} {t u : TT} {oa ob oc : Option U}
theorem EvO.go {o : Option U} (h : EvO te σ B H o) (g : At B B1 H1) : EvO te σ B1 H1 o := fun z e B2 H2 g2 => h z e B2 H2 (g.tr g2)
theorem EvT.go {o : Option Bool} (h : EvT t σ B H o) (g : At B B1 H1) : EvT t σ B1 H1 o := fun z e B2 H2 g2 => h z e B2 H2 (g.tr g2)
theorem eo_var {x : U} {v : V} {i : Nat} (h : σ[i]? = some (some v)) (r : Rp B x v) : EvO (tVar i) σ B H (some x) := fun z e B1 H1 g Q q => ⟨v, h, by cases e; exact q v B1 H1 (Go.refl g.bh) (r.upA g)⟩
theorem eo_c {x : U} {v : V} (r : Rp B x v) : EvO (tC v) σ B H (some x) := fun z e B1 H1 g Q q => by cases e; exact q v B1 H1 (Go.refl g.bh) (r.upA g)
theorem eo_int {i : Int} : EvO (tC (.int i)) σ B H (some (.int i)) := eo_c (.int i)
theorem eo_bl {i : Bool} : EvO (tC (.bl i)) σ B H (some (.bl i)) := eo_c (.bl i)
theorem eo_str {i : Str} : EvO (tC (.str i)) σ B H (some (.str i)) := eo_c (.str i)
theorem eo_non : EvO (tC .non) σ B H (some .non) := eo_c .non
/-- an operation on two values -/
def RV (r : R2) (f : U → U → Option U) : Prop := ∀ x y z, f x y = some z → ∀ v w B H, Same B H → Rp B x v → Rp B y w → ∀ Q : VK, (∀ v2 B2 H2, Go B H B2 H2 → Rp B2 z v2 → Q v2 H2) → r v w H Q
theorem eo_op {r : R2} {f : U → U → Option U} (ha : EvO ta σ B H oa) (hb : EvO tb σ B H ob) (hr : RV r f) : EvO (tOp r ta tb) σ B H (oa.bind fun x => ob.bind fun y => f x y) := fun z e B1 H1 g Q q => by
  obtain ⟨x, ex, e⟩ := bind_some e
  obtain ⟨y, ey, e⟩ := bind_some e
  exact ha x ex B1 H1 g _ fun v B2 H2 g2 r2 => hb y ey B2 H2 (g.trans g2) _ fun w B3 H3 g3 r3 => hr x y z e v w B3 H3 g3.bh (r2.up g3) r3 Q fun v2 B4 H4 g4 r4 => q v2 B4 H4 ((g2.trans g3).trans g4) r4
def RU (r : V → Hp → VK → Prop) (f : U → Option U) : Prop := ∀ x z, f x = some z → ∀ v B H, Same B H → Rp B x v → ∀ Q : VK, (∀ v2 B2 H2, Go B H B2 H2 → Rp B2 z v2 → Q v2 H2) → r v H Q
theorem eo_un {r : V → Hp → VK → Prop} {f : U → Option U} (ha : EvO ta σ B H oa) (hr : RU r f) : EvO (tUn r ta) σ B H (oa.bind f) := fun z e B1 H1 g Q q => by
  obtain ⟨x, ex, e⟩ := bind_some e
  exact ha x ex B1 H1 g _ fun v B2 H2 g2 r2 => hr x z e v B2 H2 g2.bh r2 Q fun v2 B4 H4 g4 r4 => q v2 B4 H4 (g2.trans g4) r4
/-- a call by values -/
def RC (r : List V → Hp → VK → Prop) (f : List U → Option U) : Prop := ∀ xs z, f xs = some z → ∀ vs B H, Same B H → Rps B xs vs → ∀ Q : VK, (∀ v2 B2 H2, Go B H B2 H2 → Rp B2 z v2 → Q v2 H2) → r vs H Q
theorem eo_cb {r : List V → Hp → VK → Prop} {f : List U → Option U} {tl : TA} {ol : Option (List U)} (ha : EvA tl σ B H ol) (hr : RC r f) : EvO (tCB r tl) σ B H (ol.bind f) := fun z e B1 H1 g Q q => by
  obtain ⟨x, ex, e⟩ := bind_some e
  exact ha x ex B1 H1 g _ fun v B2 H2 g2 r2 => hr x z e v B2 H2 g2.bh r2 Q fun v2 B4 H4 g4 r4 => q v2 B4 H4 (g2.trans g4) r4
/-! ### tests -/
theorem et_test (h : EvO te σ B H oa) : EvT (tTest te) σ B H (oa.bind U.asB) := fun z e B1 H1 g _ q => by
  obtain ⟨x, ex, e⟩ := bind_some e
  cases x <;> cases e
  exact h _ ex B1 H1 g _ fun v B2 H2 g2 r => by cases r; exact ⟨_, rfl, q B2 H2 g2⟩
theorem et_B (h : EvO te σ B H oa) : EvT (tB te) σ B H (oa.bind U.asB) := fun z e B1 H1 g _ q => by
  obtain ⟨x, ex, e⟩ := bind_some e
  cases x <;> cases e
  exact h _ ex B1 H1 g _ fun v B2 H2 g2 r => by cases r; exact ⟨_, rfl, q B2 H2 g2⟩
theorem et_and {a b : Option Bool} (h1 : EvT t σ B H a) (h2 : EvT u σ B H b) : EvT (tAnd t u) σ B H (andO a b) := fun z e B1 H1 g Q q => by
  obtain ⟨x, ex, e⟩ := bind_some e
  refine h1 x ex B1 H1 g _ fun B2 H2 g2 => ?_
  cases x with
  | true => exact h2 z e B2 H2 (g.trans g2) Q fun B3 H3 g3 => q B3 H3 (g2.trans g3)
  | false => cases e; exact q B2 H2 g2
theorem et_or {a b : Option Bool} (h1 : EvT t σ B H a) (h2 : EvT u σ B H b) : EvT (tOr t u) σ B H (orO a b) := fun z e B1 H1 g Q q => by
  obtain ⟨x, ex, e⟩ := bind_some e
  refine h1 x ex B1 H1 g _ fun B2 H2 g2 => ?_
  cases x with
  | false => exact h2 z e B2 H2 (g.trans g2) Q fun B3 H3 g3 => q B3 H3 (g2.trans g3)
  | true => cases e; exact q B2 H2 g2
theorem et_not {a : Option Bool} (h1 : EvT t σ B H a) : EvT (tNot t) σ B H (notO a) := fun z e B1 H1 g _ q => by
  obtain ⟨x, ex, e⟩ := map_some e
  subst e
  exact h1 x ex B1 H1 g _ fun B2 H2 g2 => q B2 H2 g2
theorem eo_and (h1 : EvO ta σ B H oa) (h2 : EvO tb σ B H ob) : EvO (tAndV ta tb) σ B H (andV oa ob) := fun z e B1 H1 g Q q => by
  obtain ⟨x, ex, e⟩ := bind_some e
  obtain ⟨y, ey, ex⟩ := bind_some ex
  cases y <;> cases ex
  refine h1 _ ey B1 H1 g _ fun v B2 H2 g2 r => ?_
  cases r
  refine ⟨x, rfl, ?_⟩
  cases x with
  | true => exact h2 z e B2 H2 (g.trans g2) Q fun w B3 H3 g3 r3 => q w B3 H3 (g2.trans g3) r3
  | false => cases e; exact q _ B2 H2 g2 (.bl false)
theorem eo_or (h1 : EvO ta σ B H oa) (h2 : EvO tb σ B H ob) : EvO (tOrV ta tb) σ B H (orV oa ob) := fun z e B1 H1 g Q q => by
  obtain ⟨x, ex, e⟩ := bind_some e
  obtain ⟨y, ey, ex⟩ := bind_some ex
  cases y <;> cases ex
  refine h1 _ ey B1 H1 g _ fun v B2 H2 g2 r => ?_
  cases r
  refine ⟨x, rfl, ?_⟩
  cases x with
  | false => exact h2 z e B2 H2 (g.trans g2) Q fun w B3 H3 g3 r3 => q w B3 H3 (g2.trans g3) r3
  | true => cases e; exact q _ B2 H2 g2 (.bl true)
theorem eo_not (h1 : EvO ta σ B H oa) : EvO (tNotV ta) σ B H (notV oa) := fun z e B1 H1 g Q q => by
  obtain ⟨x, ex, e⟩ := map_some e
  obtain ⟨y, ey, ex⟩ := bind_some ex
  cases y <;> cases ex
  subst e
  refine h1 _ ey B1 H1 g _ fun v B2 H2 g2 r => ?_
  cases r
  exact ⟨x, rfl, q _ B2 H2 g2 (.bl _)⟩
theorem eo_if {c : Option Bool} (h : EvT t σ B H c) (h1 : EvO ta σ B H oa) (h2 : EvO tb σ B H ob) : EvO (tIf t ta tb) σ B H (ifO c oa ob) := fun z e B1 H1 g Q q => by
  obtain ⟨x, ex, e⟩ := bind_some e
  refine h x ex B1 H1 g _ fun B2 H2 g2 => ?_
  cases x with
  | true => exact h1 z e B2 H2 (g.trans g2) Q fun w B3 H3 g3 r3 => q w B3 H3 (g2.trans g3) r3
  | false => exact h2 z e B2 H2 (g.trans g2) Q fun w B3 H3 g3 r3 => q w B3 H3 (g2.trans g3) r3
/-! ### arguments, displays -/
theorem ea_nil : EvA tNil σ B H (some []) := fun z e B1 H1 g _ q => by cases e; exact q _ B1 H1 (Go.refl g.bh) .nil
theorem ea_cons {tr : TA} {ol : Option (List U)} (h : EvO ta σ B H oa) (hr : EvA tr σ B H ol) : EvA (tCons ta tr) σ B H (consO oa ol) := fun z e B1 H1 g _ q => by
  obtain ⟨x, ex, e⟩ := bind_some e
  obtain ⟨r, er, e⟩ := map_some e
  subst e
  exact h x ex B1 H1 g _ fun v B2 H2 g2 r2 => hr r er B2 H2 (g.trans g2) _ fun vs B3 H3 g3 r3 => q _ B3 H3 (g2.trans g3) (.cons (r2.up g3) r3)
/-- a length that every list of the text keeps below -/
def lim : Nat := 100000
def tupO (o : Option (List U)) : Option U := o.bind fun xs => if xs.length ≤ lim then some (.tup xs) else none
def lstO (o : Option (List U)) : Option U := o.bind fun xs => if xs.length ≤ lim then some (.lst xs) else none
theorem lim_size {n : Nat} (h : n ≤ lim) : n ≤ sizeLine := Nat.le_trans h (by decide)
theorem lim_lt {n : Nat} (h : n ≤ lim) : n < sizeLine := Nat.lt_of_le_of_lt h (by decide)
theorem Rps.new {xs : List U} {vs : List V} (r : Rps B xs vs) (s : Same B H) {p : Addr} {o : HO} (hp : H p = none) : Rps (upd B p o) xs vs := r.up (Go.new s hp)
theorem eo_tup {tl : TA} {ol : Option (List U)} (h : EvA tl σ B H ol) : EvO (tTup tl) σ B H (tupO ol) := fun z e B1 H1 g Q q => by
  obtain ⟨x, ex, e⟩ := bind_some e
  split at e
  · rename_i hl
    cases e
    exact h x ex B1 H1 g _ fun vs B2 H2 g2 r => ⟨by rw [r.length]; exact lim_size hl, fun p hp => q _ _ _ (g2.trans (Go.new g2.bh hp)) (.tup upd_same (r.new g2.bh hp))⟩
  · cases e
theorem eo_lst {tl : TA} {ol : Option (List U)} (h : EvA tl σ B H ol) : EvO (tLst tl) σ B H (lstO ol) := fun z e B1 H1 g Q q => by
  obtain ⟨x, ex, e⟩ := bind_some e
  split at e
  · rename_i hl
    cases e
    exact h x ex B1 H1 g _ fun vs B2 H2 g2 r => ⟨by rw [r.length]; exact lim_size hl, fun p hp => q _ _ _ (g2.trans (Go.new g2.bh hp)) (.lst upd_same (r.new g2.bh hp))⟩
  · cases e
end
/-! ### the promise of a def -/
def spU (m : List U → Option U) : Sp := fun vs H Q _ => ∃ B xs r, Same B H ∧ Rps B xs vs ∧ m xs = some r ∧ ∀ v B2 H2, Go B H B2 H2 → Rp B2 r v → Q v H2
theorem eo_call {σ : St} {B H : Hp} {tl : TA} {ol : Option (List U)} {m : List U → Option U} {E : XK} (h : EvA tl σ B H ol) : EvO (tCall (spU m) [] E tl) σ B H (ol.bind m) := fun z e B1 H1 g Q q => by
  obtain ⟨x, ex, e⟩ := bind_some e
  refine h x ex B1 H1 g _ fun vs B2 H2 g2 r => ?_
  show spU m (vs ++ []) H2 Q E
  rw [List.append_nil]
  exact ⟨B2, x, z, g2.bh, r, e, fun v B3 H3 g3 r3 => q v B3 H3 (g2.trans g3) r3⟩
end Dn
set_option Elab.async false
set_option linter.all false
set_option maxRecDepth 100000
set_option maxHeartbeats 2000000
namespace Dn
open PySem L2
variable [CTab]
/-! ### == of data -/
def U.plain : U → Bool
  | .non | .bl _ | .int _ | .str _ | .tup _ | .lst _ => true
  | _ => false
def eqK : U → U → Option Bool
  | .non, .non => some true
  | .bl a, .bl b => some (a == b)
  | .bl a, .int b => some ((if a then 1 else 0) == b)
  | .int a, .bl b => some (a == (if b then 1 else 0))
  | .int a, .int b => some (a == b)
  | .str a, .str b => some (a == b)
  | .tup _, .tup _ => none
  | .lst _, .lst _ => none
  | x, y => if (x.plain && y.plain) = true then some false else none
def allO (f : U → U → Option Bool) : List U → List U → Option Bool
  | x :: xs, y :: ys => (f x y).bind fun a => (allO f xs ys).map fun b => a && b
  | _, _ => some true
def eqO : Nat → U → U → Option Bool
  | 0, _, _ => none
  | n + 1, .tup xs, .tup ys => (allO (eqO n) xs ys).map fun b => b && (xs.length == ys.length)
  | n + 1, .lst xs, .lst ys => if xs.length = ys.length then allO (eqO n) xs ys else some false
  | n + 1, .frl xs, .lst ys => if xs.length = ys.length then allO (eqO n) xs ys else some false
  | n + 1, .lst xs, .frl ys => if xs.length = ys.length then allO (eqO n) xs ys else some false
  | _ + 1, x, y => eqK x y
def nth (f : U → U → Option Bool) (xs ys : List U) (j : Nat) : Bool := ((xs[j]?.bind fun x => ys[j]?.bind fun y => f x y).getD true)
theorem allO_nth {f : U → U → Option Bool} : ∀ {xs ys : List U} {b : Bool}, allO f xs ys = some b →
    (∀ (j : Nat) x y, xs[j]? = some x → ys[j]? = some y → f x y = some (nth f xs ys j)) ∧ (List.range (min xs.length ys.length)).all (nth f xs ys) = b
  | [], ys, b, h => by
    cases h
    exact ⟨fun j x y e => by simp at e, by simp⟩
  | x :: xs, [], b, h => by
    cases h
    exact ⟨fun j x y e e2 => by simp at e2, by simp⟩
  | x :: xs, y :: ys, b, h => by
    obtain ⟨a, ea, h⟩ := bind_some h
    obtain ⟨c, ec, h⟩ := map_some h
    obtain ⟨i1, i2⟩ := allO_nth ec
    refine ⟨fun j x' y' e1 e2 => ?_, ?_⟩
    · cases j with
      | zero =>
        simp at e1 e2
        subst e1 e2
        simp [nth, ea]
      | succ j =>
        have := i1 j x' y' (by simpa using e1) (by simpa using e2)
        simpa [nth] using this
    · rw [List.length_cons, List.length_cons, Nat.succ_min_succ, List.range_succ_eq_map, List.all_cons, List.all_map, ← h, ← i2]
      have e0 : nth f (x :: xs) (y :: ys) 0 = a := by simp [nth, ea]
      rw [e0]
      have e1 : (nth f (x :: xs) (y :: ys) ∘ Nat.succ) = nth f xs ys := by
        funext j
        simp [nth]
      rw [e1]
mutual
theorem Rp.inj {B : Hp} : ∀ {x y : U} {v : V}, Rp B x v → Rp B y v → x = y
  | _, _, _, .non, h => by cases h; rfl
  | _, _, _, .bl b, h => by cases h; rfl
  | _, _, _, .int i, h => by cases h; rfl
  | _, _, _, .str i, h => by cases h; rfl
  | _, _, _, .tup e r, h => by
    cases h with
    | tup e' r' => rw [e] at e'; cases e'; rw [Rps.inj r r']
    | lst e' r' => rw [e] at e'; cases e'
    | frl e' _ => rw [e] at e'; cases e'
    | dic e' r' => rw [e] at e'; cases e'
    | dit e' r' => rw [e] at e'; cases e'
    | obj e' _ r' => rw [e] at e'; cases e'
  | _, _, _, .lst e r, h => by
    cases h with
    | tup e' r' => rw [e] at e'; cases e'
    | lst e' r' => rw [e] at e'; cases e'; rw [Rps.inj r r']
    | frl e' _ => rw [e] at e'; cases e'
    | dic e' r' => rw [e] at e'; cases e'
    | dit e' r' => rw [e] at e'; cases e'
    | obj e' _ r' => rw [e] at e'; cases e'
  | _, _, _, .frl e r, h => by
    cases h with
    | tup e' r' => rw [e] at e'; cases e'
    | lst e' r' => rw [e] at e'; cases e'
    | frl e' r' => rw [e] at e'; cases e'; rw [Rps.inj r r']
    | dic e' r' => rw [e] at e'; cases e'
    | dit e' r' => rw [e] at e'; cases e'
    | obj e' _ r' => rw [e] at e'; cases e'
  | _, _, _, .dic e r, h => by
    cases h with
    | tup e' r' => rw [e] at e'; cases e'
    | lst e' r' => rw [e] at e'; cases e'
    | frl e' _ => rw [e] at e'; cases e'
    | dic e' r' => rw [e] at e'; cases e'; rw [Rpk.inj r r']
    | dit e' r' => rw [e] at e'; cases e'
    | obj e' _ r' => rw [e] at e'; cases e'
  | _, _, _, .dit e r, h => by
    cases h with
    | tup e' r' => rw [e] at e'; cases e'
    | lst e' r' => rw [e] at e'; cases e'
    | frl e' _ => rw [e] at e'; cases e'
    | dit e' r' => rw [e] at e'; cases e'; rw [Rpt.inj r r']
    | dic e' r' => rw [e] at e'; cases e'
    | obj e' _ r' => rw [e] at e'; cases e'
  | _, _, _, .obj e _ r, h => by
    cases h with
    | tup e' r' => rw [e] at e'; cases e'
    | lst e' r' => rw [e] at e'; cases e'
    | frl e' _ => rw [e] at e'; cases e'
    | dic e' r' => rw [e] at e'; cases e'
    | dit e' r' => rw [e] at e'; cases e'
    | obj e' _ r' =>
      rw [e] at e'
      injection e' with e'
      injection e' with e1 e2 e3
      subst e3
      rw [Rpf.inj r r', CTab.inj _ _ e1]
theorem Rps.inj {B : Hp} : ∀ {x y : List U} {v : List V}, Rps B x v → Rps B y v → x = y
  | _, _, _, .nil, h => by cases h; rfl
  | _, _, _, .cons r t, h => by cases h with | cons r' t' => rw [Rp.inj r r', Rps.inj t t']
theorem Rpk.inj {B : Hp} : ∀ {x y : List (Key × U)} {v : List (Key × V)}, Rpk B x v → Rpk B y v → x = y
  | _, _, _, .nil, h => by cases h; rfl
  | _, _, _, .cons r t, h => by cases h with | cons r' t' => rw [Rp.inj r r', Rpk.inj t t']
theorem Rpt.inj {B : Hp} : ∀ {x y : List (List Key × U)} {v : List (List Key × V)}, Rpt B x v → Rpt B y v → x = y
  | _, _, _, .nil, h => by cases h; rfl
  | _, _, _, .cons r t, h => by cases h with | cons r' t' => rw [Rp.inj r r', Rpt.inj t t']
theorem Rpf.inj {B : Hp} : ∀ {x y : List (Str × U)} {v : List (Str × V)}, Rpf B x v → Rpf B y v → x = y
  | _, _, _, .nil, h => by cases h; rfl
  | _, _, _, .cons r t, h => by cases h with | cons r' t' => rw [Rp.inj r r', Rpf.inj t t']
end
theorem allO_same {f : U → U → Option Bool} (hf : ∀ x b, f x x = some b → b = true) : ∀ {xs : List U} {b : Bool}, allO f xs xs = some b → b = true
  | [], b, h => by cases h; rfl
  | x :: xs, b, h => by
    obtain ⟨a, ea, h⟩ := bind_some h
    obtain ⟨c, ec, h⟩ := map_some h
    rw [← h, hf x a ea, allO_same hf ec]
    rfl
theorem eqO_same : ∀ (n : Nat) (x : U) (b : Bool), eqO n x x = some b → b = true
  | 0, _, _, h => by cases h
  | n + 1, .tup xs, b, h => by
    obtain ⟨c, ec, h⟩ := map_some h
    rw [← h, allO_same (eqO_same n) ec]
    simp
  | n + 1, .lst xs, b, h => by
    have h : (if xs.length = xs.length then allO (eqO n) xs xs else some false) = some b := h
    rw [if_pos rfl] at h
    exact allO_same (eqO_same n) h
  | _ + 1, .non, b, h => by cases h; rfl
  | _ + 1, .bl a, b, h => by
    have h : some (a == a) = some b := h
    rw [← Option.some.inj h]; simp
  | _ + 1, .int a, b, h => by
    have h : some (a == a) = some b := h
    rw [← Option.some.inj h]; simp
  | _ + 1, .str a, b, h => by
    have h : some (a == a) = some b := h
    rw [← Option.some.inj h]; simp
  | _ + 1, .frl _, b, h => by cases h
  | _ + 1, .dic _, b, h => by cases h
  | _ + 1, .dit _, b, h => by cases h
  | _ + 1, .obj _ _, b, h => by cases h
/-! ### what the heap has of plain data -/
section
variable {X : Cx} {pins : List (Addr × Obj)} {σ : St} {H : Hp} {s : Shared}
theorem lst_heapQ (I : Inv X pins σ H s) {xs : List U} {a : Addr} {vs : List V} (h : SqL X.K H a vs) (r : Rps H xs vs) : ∃ its : List Value, s.heap.IsList a its.toArray ∧ its.length = xs.length ∧ ∀ (j : Nat) (hj : j < its.length), ∃ x v, xs[j]? = some x ∧ Rp H x v ∧ RelV v its[j] := by
  obtain ⟨its, rv, pl, _⟩ := I.list h
  refine ⟨its, pl.isList, by rw [← rv.length, r.length], fun j hj => ?_⟩
  have hj' : j < vs.length := by rw [rv.length]; exact hj
  obtain ⟨x, ex, rx⟩ := r.back (List.getElem?_eq_getElem hj')
  obtain ⟨u, eu, ru⟩ := rv.get (List.getElem?_eq_getElem hj')
  rw [List.getElem?_eq_getElem hj] at eu
  cases eu
  exact ⟨x, _, ex, rx, ru⟩
theorem lst_heap (I : Inv X pins σ H s) {xs : List U} {a : Addr} {vs : List V} (h : H a = some (.lst vs)) (r : Rps H xs vs) : ∃ its : List Value, s.heap.IsList a its.toArray ∧ its.length = xs.length ∧ ∀ (j : Nat) (hj : j < its.length), ∃ x v, xs[j]? = some x ∧ Rp H x v ∧ RelV v its[j] := lst_heapQ I (SqL.of h) r
theorem tup_heap (I : Inv X pins σ H s) {xs : List U} {a : Addr} {vs : List V} (h : H a = some (.tup vs)) (r : Rps H xs vs) : ∃ its : List Value, s.heap.IsTuple a its.toArray ∧ its.length = xs.length ∧ ∀ (j : Nat) (hj : j < its.length), ∃ x v, xs[j]? = some x ∧ Rp H x v ∧ RelV v its[j] := by
  obtain ⟨its, rv, pl, _⟩ := I.tuple (SqT.of h)
  refine ⟨its, pl, by rw [← rv.length, r.length], fun j hj => ?_⟩
  have hj' : j < vs.length := by rw [rv.length]; exact hj
  obtain ⟨x, ex, rx⟩ := r.back (List.getElem?_eq_getElem hj')
  obtain ⟨u, eu, ru⟩ := rv.get (List.getElem?_eq_getElem hj')
  rw [List.getElem?_eq_getElem hj] at eu
  cases eu
  exact ⟨x, _, ex, rx, ru⟩
open PySem.SeqAt
theorem eqK_rc (I : Inv X pins σ H s) {A : Around} {x y : U} {b : Bool} {v w : V} {p q : Value} (h : eqK x y = some b) (rx : Rp H x v) (ry : Rp H y w) (rv : RelV v p) (rw' : RelV w q) (hu : A.units < cLine) : RcAt A s p q b := by
  cases rx with
  | non =>
    cases rv
    cases ry with
    | non => cases rw'; cases h; exact RcAt.none_none
    | bl y => cases rw'; cases h; exact RcAt.none_bool y
    | int y => obtain ⟨t, rfl⟩ := rw'; cases h; exact RcAt.none_int y t
    | str y => obtain ⟨t, rfl⟩ := rw'; cases h; exact RcAt.none_str y t
    | lst e r => cases rw'; cases h; obtain ⟨its, hl, _⟩ := lst_heap I e r; exact RcAt.none_list hl hu
    | tup e r => cases rw'; cases h; obtain ⟨its, hl, _⟩ := tup_heap I e r; exact RcAt.none_tuple hl hu
    | _ => cases h
  | bl x =>
    cases rv
    cases ry with
    | non => cases rw'; cases h; exact RcAt.bool_none x
    | bl y => cases rw'; cases h; exact RcAt.bool_bool x y
    | int y => obtain ⟨t, rfl⟩ := rw'; cases h; exact RcAt.bool_int x y t
    | str y => obtain ⟨t, rfl⟩ := rw'; cases h; exact RcAt.bool_str x y t
    | lst e r => cases rw'; cases h; obtain ⟨its, hl, _⟩ := lst_heap I e r; exact RcAt.bool_list x hl hu
    | tup e r => cases rw'; cases h; obtain ⟨its, hl, _⟩ := tup_heap I e r; exact RcAt.bool_tuple x hl hu
    | _ => cases h
  | int x =>
    obtain ⟨t0, rfl⟩ := rv
    cases ry with
    | non => cases rw'; cases h; exact RcAt.int_none x t0
    | bl y => cases rw'; cases h; exact RcAt.int_bool x t0 y
    | int y => obtain ⟨t, rfl⟩ := rw'; cases h; exact RcAt.int_int x t0 y t
    | str y => obtain ⟨t, rfl⟩ := rw'; cases h; exact RcAt.int_str x t0 y t
    | lst e r => cases rw'; cases h; obtain ⟨its, hl, _⟩ := lst_heap I e r; exact RcAt.int_list x t0 hl hu
    | tup e r => cases rw'; cases h; obtain ⟨its, hl, _⟩ := tup_heap I e r; exact RcAt.int_tuple x t0 hl hu
    | _ => cases h
  | str x =>
    obtain ⟨t0, rfl⟩ := rv
    cases ry with
    | non => cases rw'; cases h; exact RcAt.str_none x t0
    | bl y => cases rw'; cases h; exact RcAt.str_bool x t0 y
    | int y => obtain ⟨t, rfl⟩ := rw'; cases h; exact RcAt.str_int x t0 y t
    | str y => obtain ⟨t, rfl⟩ := rw'; cases h; exact RcAt.str_str x t0 y t
    | lst e r => cases rw'; cases h; obtain ⟨its, hl, _⟩ := lst_heap I e r; exact RcAt.str_list x t0 hl hu
    | tup e r => cases rw'; cases h; obtain ⟨its, hl, _⟩ := tup_heap I e r; exact RcAt.str_tuple x t0 hl hu
    | _ => cases h
  | lst e0 r0 =>
    cases rv
    obtain ⟨its0, hl0, _⟩ := lst_heap I e0 r0
    cases ry with
    | non => cases rw'; cases h; exact RcAt.list_none hl0 hu
    | bl y => cases rw'; cases h; exact RcAt.list_bool y hl0 hu
    | int y => obtain ⟨t, rfl⟩ := rw'; cases h; exact RcAt.list_int y t hl0 hu
    | str y => obtain ⟨t, rfl⟩ := rw'; cases h; exact RcAt.list_str y t hl0 hu
    | tup e r => cases rw'; cases h; obtain ⟨its, hl, _⟩ := tup_heap I e r; exact RcAt.list_tuple hl0 hl hu
    | _ => cases h
  | tup e0 r0 =>
    cases rv
    obtain ⟨its0, hl0, _⟩ := tup_heap I e0 r0
    cases ry with
    | non => cases rw'; cases h; exact RcAt.tuple_none hl0 hu
    | bl y => cases rw'; cases h; exact RcAt.tuple_bool y hl0 hu
    | int y => obtain ⟨t, rfl⟩ := rw'; cases h; exact RcAt.tuple_int y t hl0 hu
    | str y => obtain ⟨t, rfl⟩ := rw'; cases h; exact RcAt.tuple_str y t hl0 hu
    | lst e r => cases rw'; cases h; obtain ⟨its, hl, _⟩ := lst_heap I e r; exact RcAt.tuple_list hl0 hl hu
    | _ => cases h
  | frl _ _ => cases ry <;> cases h
  | dic _ _ => cases ry <;> cases h
  | dit _ _ => cases ry <;> cases h
  | obj _ _ _ => cases ry <;> cases h
theorem eqK_ne (I : Inv X pins σ H s) {A : Around} {x y : U} {b : Bool} {v w : V} {p q : Value} (h : eqK x y = some b) (rx : Rp H x v) (ry : Rp H y w) (rv : RelV v p) (rw' : RelV w q) (hu : A.units < cLine) : RcNeAt A s p q (!b) := by
  cases rx with
  | non =>
    cases rv
    cases ry with
    | non => cases rw'; cases h; exact RcNeAt.none_none
    | bl y => cases rw'; cases h; exact RcNeAt.none_bool y
    | int y => obtain ⟨t, rfl⟩ := rw'; cases h; exact RcNeAt.none_int y t
    | str y => obtain ⟨t, rfl⟩ := rw'; cases h; exact RcNeAt.none_str y t
    | lst e r => cases rw'; cases h; obtain ⟨its, hl, _⟩ := lst_heap I e r; exact RcNeAt.none_list hl hu
    | tup e r => cases rw'; cases h; obtain ⟨its, hl, _⟩ := tup_heap I e r; exact RcNeAt.none_tuple hl hu
    | _ => cases h
  | bl x =>
    cases rv
    cases ry with
    | non => cases rw'; cases h; exact RcNeAt.bool_none x
    | bl y => cases rw'; cases h; exact RcNeAt.bool_bool x y
    | int y => obtain ⟨t, rfl⟩ := rw'; cases h; exact RcNeAt.bool_int x y t
    | str y => obtain ⟨t, rfl⟩ := rw'; cases h; exact RcNeAt.bool_str x y t
    | lst e r => cases rw'; cases h; obtain ⟨its, hl, _⟩ := lst_heap I e r; exact RcNeAt.bool_list x hl hu
    | tup e r => cases rw'; cases h; obtain ⟨its, hl, _⟩ := tup_heap I e r; exact RcNeAt.bool_tuple x hl hu
    | _ => cases h
  | int x =>
    obtain ⟨t0, rfl⟩ := rv
    cases ry with
    | non => cases rw'; cases h; exact RcNeAt.int_none x t0
    | bl y => cases rw'; cases h; exact RcNeAt.int_bool x t0 y
    | int y => obtain ⟨t, rfl⟩ := rw'; cases h; exact RcNeAt.int_int x t0 y t
    | str y => obtain ⟨t, rfl⟩ := rw'; cases h; exact RcNeAt.int_str x t0 y t
    | lst e r => cases rw'; cases h; obtain ⟨its, hl, _⟩ := lst_heap I e r; exact RcNeAt.int_list x t0 hl hu
    | tup e r => cases rw'; cases h; obtain ⟨its, hl, _⟩ := tup_heap I e r; exact RcNeAt.int_tuple x t0 hl hu
    | _ => cases h
  | str x =>
    obtain ⟨t0, rfl⟩ := rv
    cases ry with
    | non => cases rw'; cases h; exact RcNeAt.str_none x t0
    | bl y => cases rw'; cases h; exact RcNeAt.str_bool x t0 y
    | int y => obtain ⟨t, rfl⟩ := rw'; cases h; exact RcNeAt.str_int x t0 y t
    | str y => obtain ⟨t, rfl⟩ := rw'; cases h; exact RcNeAt.str_str x t0 y t
    | lst e r => cases rw'; cases h; obtain ⟨its, hl, _⟩ := lst_heap I e r; exact RcNeAt.str_list x t0 hl hu
    | tup e r => cases rw'; cases h; obtain ⟨its, hl, _⟩ := tup_heap I e r; exact RcNeAt.str_tuple x t0 hl hu
    | _ => cases h
  | lst e0 r0 =>
    cases rv
    obtain ⟨its0, hl0, _⟩ := lst_heap I e0 r0
    cases ry with
    | non => cases rw'; cases h; exact RcNeAt.list_none hl0 hu
    | bl y => cases rw'; cases h; exact RcNeAt.list_bool y hl0 hu
    | int y => obtain ⟨t, rfl⟩ := rw'; cases h; exact RcNeAt.list_int y t hl0 hu
    | str y => obtain ⟨t, rfl⟩ := rw'; cases h; exact RcNeAt.list_str y t hl0 hu
    | tup e r => cases rw'; cases h; obtain ⟨its, hl, _⟩ := tup_heap I e r; exact RcNeAt.list_tuple hl0 hl hu
    | _ => cases h
  | tup e0 r0 =>
    cases rv
    obtain ⟨its0, hl0, _⟩ := tup_heap I e0 r0
    cases ry with
    | non => cases rw'; cases h; exact RcNeAt.tuple_none hl0 hu
    | bl y => cases rw'; cases h; exact RcNeAt.tuple_bool y hl0 hu
    | int y => obtain ⟨t, rfl⟩ := rw'; cases h; exact RcNeAt.tuple_int y t hl0 hu
    | str y => obtain ⟨t, rfl⟩ := rw'; cases h; exact RcNeAt.tuple_str y t hl0 hu
    | lst e r => cases rw'; cases h; obtain ⟨its, hl, _⟩ := lst_heap I e r; exact RcNeAt.tuple_list hl0 hl hu
    | _ => cases h
  | frl _ _ => cases ry <;> cases h
  | dic _ _ => cases ry <;> cases h
  | dit _ _ => cases ry <;> cases h
  | obj _ _ _ => cases ry <;> cases h
end
end Dn
set_option Elab.async false
set_option linter.all false
set_option maxRecDepth 100000
set_option maxHeartbeats 2000000
namespace Dn
open PySem L2 PySem.SeqAt
variable [CTab]
section
variable {X : Cx} {pins : List (Addr × Obj)} {σ : St} {H : Hp} {s : Shared}
theorem eq_at {A : Around} {n : Nat} {x y : U} {b : Bool} {v w : V} {p q : Value} (h : eqO n x y = some b) (rx : Rp H x v) (ry : Rp H y w) (rv : RelV v p) (rw' : RelV w q) (rc : RcAt A s p q b) : EqAt A s p q b := by
  by_cases e : p = q
  · subst e
    have e1 : v = w := rv.inj rw'
    subst e1
    have e2 := rx.inj ry
    subst e2
    rw [eqO_same n x b h]
    exact EqAt.same _
  · have shape : ∀ {u : U} {v : V} {p : Value}, Rp H u v → RelV v p → p = .none ∨ (∃ b, p = .bool b) ∨ (∃ i t, p = .int i t) ∨ (∃ i t, p = .str i t) ∨ ∃ a, p = .ref a := fun {u v p} r rv => by
      cases r with
      | non => exact .inl rv
      | bl b => exact .inr (.inl ⟨_, rv⟩)
      | int i => exact .inr (.inr (.inl ⟨_, rv⟩))
      | str i => exact .inr (.inr (.inr (.inl ⟨_, rv⟩)))
      | _ => exact .inr (.inr (.inr (.inr ⟨_, rv⟩)))
    intro prog w E Q hq
    unfold eqBool
    refine wpAny_holding ?_
    refine wpAny_ite_split (fun hab => absurd (eq_of_beq hab) e) (fun _ => ?_)
    rcases shape rx rv with rfl | ⟨_, rfl⟩ | ⟨_, _, rfl⟩ | ⟨_, _, rfl⟩ | ⟨_, rfl⟩ <;> exact wpAny_bind (rc prog w E _ (wpAny_truthy_bool hq))
theorem eq_lists (I : Inv X pins σ H s) {n : Nat} {A : Around} {xs ys : List U} {b : Bool} {a a' : Addr} {vs ws : List V} (hu0 : A.units < cLine)
    (ih : ∀ {x y : U} {b : Bool} {v w : V} {p q : Value}, eqO n x y = some b → Rp H x v → Rp H y w → RelV v p → RelV w q → RcAt A.in1 s p q b)
    (e : SqL X.K H a vs) (r : Rps H xs vs) (e' : SqL X.K H a' ws) (r' : Rps H ys ws) (h : (if xs.length = ys.length then allO (eqO n) xs ys else some false) = some b) : RcAt A s (.ref a) (.ref a') b ∧ RcNeAt A s (.ref a) (.ref a') (!b) := by
  obtain ⟨its, hl, hn, hi⟩ := lst_heapQ I e r
  obtain ⟨its', hl', hn', hi'⟩ := lst_heapQ I e' r'
  by_cases hz : xs.length = ys.length
  · rw [if_pos hz] at h
    obtain ⟨n1, n2⟩ := allO_nth h
    have he : ∀ j (h1 : j < its.toArray.size) (h2 : j < its'.toArray.size), EqAt A.in1 s its.toArray[j] its'.toArray[j] (nth (eqO n) xs ys j) := fun j h1 h2 => by
      obtain ⟨x1, v1, e1, r1, rv1⟩ := hi j (by simpa using h1)
      obtain ⟨x2, v2, e2, r2, rv2⟩ := hi' j (by simpa using h2)
      have := eq_at (n1 j x1 x2 e1 e2) r1 r2 rv1 rv2 (ih (n1 j x1 x2 e1 e2) r1 r2 rv1 rv2)
      simpa using this
    have eb : (List.range its.toArray.size).all (nth (eqO n) xs ys) = b := by
      rw [← n2]
      simp only [List.size_toArray, hn, hz, Nat.min_self]
    have hsz : its.toArray.size = its'.toArray.size := by simp [hn, hn', hz]
    rw [← eb]
    exact ⟨RcAt.lists hl hl' hsz hu0 he, RcNeAt.lists hl hl' hsz hu0 he⟩
  · rw [if_neg hz] at h
    cases h
    have hsz : (its.toArray.size != its'.toArray.size) = true := by simp [hn, hn', hz]
    exact ⟨RcAt.lists_lengths hl hl' hsz hu0, RcNeAt.lists_lengths hl hl' hsz hu0⟩
theorem eq_rc (I : Inv X pins σ H s) : ∀ (n : Nat) {A : Around} {x y : U} {b : Bool} {v w : V} {p q : Value}, eqO n x y = some b → Rp H x v → Rp H y w → RelV v p → RelV w q → A.units + n < cLine → RcAt A s p q b ∧ RcNeAt A s p q (!b)
  | 0, _, _, _, _, _, _, _, _, h, _, _, _, _, _ => by cases h
  | n + 1, A, x, y, b, v, w, p, q, h, rx, ry, rv, rw', hu => by
    have hu0 : A.units < cLine := by omega
    have hu1 : A.in1.units + n < cLine := by show A.units + 1 + n < cLine; omega
    by_cases hk : eqK x y = some b
    · exact ⟨eqK_rc I hk rx ry rv rw' hu0, eqK_ne I hk rx ry rv rw' hu0⟩
    · cases rx with
      | @tup a xs vs e r =>
        cases ry with
        | @tup a' ys ws e' r' =>
          cases rv; cases rw'
          obtain ⟨c, ec, h⟩ := map_some h
          obtain ⟨n1, n2⟩ := allO_nth ec
          obtain ⟨its, hl, hn, hi⟩ := tup_heap I e r
          obtain ⟨its', hl', hn', hi'⟩ := tup_heap I e' r'
          have he : ∀ j (h1 : j < its.toArray.size) (h2 : j < its'.toArray.size), EqAt A.in1 s its.toArray[j] its'.toArray[j] (nth (eqO n) xs ys j) := fun j h1 h2 => by
            obtain ⟨x1, v1, e1, r1, rv1⟩ := hi j (by simpa using h1)
            obtain ⟨x2, v2, e2, r2, rv2⟩ := hi' j (by simpa using h2)
            have := eq_at (n1 j x1 x2 e1 e2) r1 r2 rv1 rv2 (eq_rc I n (n1 j x1 x2 e1 e2) r1 r2 rv1 rv2 hu1).1
            simpa using this
          have eb : ((List.range (min its.toArray.size its'.toArray.size)).all (nth (eqO n) xs ys) && its.toArray.size == its'.toArray.size) = b := by
            rw [← h]
            simp only [List.size_toArray, hn, hn', n2]
          rw [← eb]
          exact ⟨RcAt.tuples hl hl' hu0 he, RcNeAt.tuples hl hl' hu0 he⟩
        | _ => exact absurd h hk
      | @lst a xs vs e r =>
        cases ry with
        | @lst a' ys ws e' r' =>
          cases rv; cases rw'
          exact eq_lists I hu0 (fun h1 h2 h3 h4 h5 => (eq_rc I n h1 h2 h3 h4 h5 hu1).1) (SqL.of e) r (SqL.of e') r' h
        | @frl a' ys ws o' e' r' =>
          cases rv; cases rw'
          exact eq_lists I hu0 (fun h1 h2 h3 h4 h5 => (eq_rc I n h1 h2 h3 h4 h5 hu1).1) (SqL.of e) r (.inl (.inr ⟨o', e'⟩)) r' h
        | _ => exact absurd h hk
      | @frl a xs vs o e r =>
        cases ry with
        | @lst a' ys ws e' r' =>
          cases rv; cases rw'
          exact eq_lists I hu0 (fun h1 h2 h3 h4 h5 => (eq_rc I n h1 h2 h3 h4 h5 hu1).1) (.inl (.inr ⟨o, e⟩)) r (SqL.of e') r' h
        | _ => exact absurd h hk
      | _ => cases ry <;> exact absurd h hk
end
/-- how deep data may lie -/
def dep : Nat := 40
def rEqU : R2 := fun x y H Q => ∃ u w b, Rp H u x ∧ Rp H w y ∧ eqO dep u w = some b ∧ Q (.bl b) H
def rNeU : R2 := fun x y H Q => ∃ u w b, Rp H u x ∧ Rp H w y ∧ eqO dep u w = some b ∧ Q (.bl (!b)) H
section
variable {X : Cx}
theorem op_eqU (hu : X.A.units + 64 < cLine) : OpR X (compareOp .Eq) rEqU := by
  intro pins s σ H x y v u Q I rx ry h
  obtain ⟨d, e, b, hd, he, hb, q⟩ := h
  exact (eq_rc I dep hb hd he rx ry (by unfold dep; omega)).1 _ _ _ _ ⟨.bl b, H, I, rfl, q⟩
theorem op_neU (hu : X.A.units + 64 < cLine) : OpR X (compareOp .NotEq) rNeU := by
  intro pins s σ H x y v u Q I rx ry h
  obtain ⟨d, e, b, hd, he, hb, q⟩ := h
  exact (eq_rc I dep hb hd he rx ry (by unfold dep; omega)).2 _ _ _ _ ⟨.bl _, H, I, rfl, q⟩
end
def eqV2 (x y : U) : Option U := (eqO dep x y).map U.bl
def neV2 (x y : U) : Option U := (eqO dep x y).map fun b => U.bl (!b)
theorem rv_eq : RV rEqU eqV2 := fun x y z e v w B H s rx ry Q q => by
  obtain ⟨b, eb, e⟩ := map_some e
  subst e
  exact ⟨x, y, b, rx.in s, ry.in s, eb, q _ B H (Go.refl s) (.bl b)⟩
theorem rv_ne : RV rNeU neV2 := fun x y z e v w B H s rx ry Q q => by
  obtain ⟨b, eb, e⟩ := map_some e
  subst e
  exact ⟨x, y, b, rx.in s, ry.in s, eb, q _ B H (Go.refl s) (.bl _)⟩
/-! ### x in xs -/
def inO (n : Nat) (x : U) : List U → Option Bool
  | [] => some false
  | y :: ys => (eqO n y x).bind fun a => (inO n x ys).map fun b => a || b
/-- lists and tuples -/
def U.seq : U → Option (List U)
  | .lst xs => some xs
  | .tup xs => some xs
  | .frl xs => some xs
  | _ => none
section
variable {X : Cx} {pins : List (Addr × Obj)} {σ : St} {H : Hp} {s : Shared}
open Classical in
noncomputable def eqOf (H : Hp) (n : Nat) (x : U) (p : Value) : Bool := if ∃ y v, Rp H y v ∧ RelV v p ∧ eqO n y x = some true then true else false
theorem eqOf_is {n : Nat} {x y : U} {v : V} {p : Value} {b : Bool} (r : Rp H y v) (rv : RelV v p) (h : eqO n y x = some b) : eqOf H n x p = b := by
  unfold eqOf
  cases b with
  | true => rw [if_pos ⟨y, v, r, rv, h⟩]
  | false =>
    rw [if_neg]
    rintro ⟨y', v', r', rv', h'⟩
    have e1 : v = v' := rv.inj rv'
    subst e1
    have e2 := r.inj r'
    subst e2
    rw [h] at h'
    cases h'
theorem inO_any {n : Nat} {x : U} : ∀ {xs : List U} {vs : List V} {its : List Value} {b : Bool}, Rps H xs vs → Vals vs its → inO n x xs = some b →
    its.any (eqOf H n x) = b ∧ ∀ y ∈ its, ∃ u v c, Rp H u v ∧ RelV v y ∧ eqO n u x = some c ∧ eqOf H n x y = c
  | _, _, _, b, .nil, .nil, h => by cases h; exact ⟨rfl, fun y hy => nomatch hy⟩
  | _, _, _, b, .cons r t, .cons rv tv, h => by
    obtain ⟨a, ea, h⟩ := bind_some h
    obtain ⟨c, ec, h⟩ := map_some h
    obtain ⟨i1, i2⟩ := inO_any t tv ec
    refine ⟨?_, fun y hy => ?_⟩
    · rw [List.any_cons, i1, eqOf_is r rv ea, h]
    · rcases List.mem_cons.mp hy with e | hy
      · subst e
        exact ⟨_, _, a, r, rv, ea, eqOf_is r rv ea⟩
      · exact i2 y hy
end
def rInU (neg : Bool) : R2 := fun x y H Q => ∃ u w xs b, Rp H u x ∧ Rp H w y ∧ w.seq = some xs ∧ inO dep u xs = some b ∧ Q (.bl (if neg then !b else b)) H
section
variable {X : Cx}
theorem op_inU (hu : X.A.units + 64 < cLine) : OpR X (compareOp .In) (rInU false) := by
  intro pins s σ H x y v u Q I rx ry h
  obtain ⟨d, e, xs, b, hd, he, hs, hb, q⟩ := h
  have room : X.A.in1.units + dep < cLine := by show X.A.units + 1 + dep < cLine; unfold dep; omega
  cases he with
  | lst h r =>
    cases hs; cases ry
    obtain ⟨its, rv, pl, _⟩ := I.list (SqL.of h)
    obtain ⟨i1, i2⟩ := inO_any r rv hb
    refine in_listAt (eqOf H dep d) pl.isList (fun y hy => ?_) ⟨.bl _, H, I, ?_, q⟩
    · obtain ⟨u1, v1, c, r1, rv1, e1, e2⟩ := i2 y (by simpa using hy)
      rw [e2]
      exact eq_at e1 r1 hd rv1 rx (eq_rc I dep e1 r1 hd rv1 rx room).1
    · show Value.bool _ = Value.bool _
      rw [← i1]
      simp
  | @frl _ _ _ o h r =>
    cases hs; cases ry
    obtain ⟨its, rv, pl, _⟩ := I.list (.inl (.inr ⟨o, h⟩))
    obtain ⟨i1, i2⟩ := inO_any r rv hb
    refine in_listAt (eqOf H dep d) pl.isList (fun y hy => ?_) ⟨.bl _, H, I, ?_, q⟩
    · obtain ⟨u1, v1, c, r1, rv1, e1, e2⟩ := i2 y (by simpa using hy)
      rw [e2]
      exact eq_at e1 r1 hd rv1 rx (eq_rc I dep e1 r1 hd rv1 rx room).1
    · show Value.bool _ = Value.bool _
      rw [← i1]
      simp
  | tup h r =>
    cases hs; cases ry
    obtain ⟨its, rv, pl, _⟩ := I.tuple (SqT.of h)
    obtain ⟨i1, i2⟩ := inO_any r rv hb
    refine in_tupleAt (eqOf H dep d) pl (fun y hy => ?_) ⟨.bl _, H, I, ?_, q⟩
    · obtain ⟨u1, v1, c, r1, rv1, e1, e2⟩ := i2 y (by simpa using hy)
      rw [e2]
      exact eq_at e1 r1 hd rv1 rx (eq_rc I dep e1 r1 hd rv1 rx room).1
    · show Value.bool _ = Value.bool _
      rw [← i1]
      simp
  | _ => cases hs
theorem op_notInU (hu : X.A.units + 64 < cLine) : OpR X (compareOp .NotIn) (rInU true) := by
  intro pins s σ H x y v u Q I rx ry h
  obtain ⟨d, e, xs, b, hd, he, hs, hb, q⟩ := h
  have room : X.A.in1.units + dep < cLine := by show X.A.units + 1 + dep < cLine; unfold dep; omega
  cases he with
  | lst h r =>
    cases hs; cases ry
    obtain ⟨its, rv, pl, _⟩ := I.list (SqL.of h)
    obtain ⟨i1, i2⟩ := inO_any r rv hb
    refine notIn_listAt (eqOf H dep d) pl.isList (fun y hy => ?_) ⟨.bl _, H, I, ?_, q⟩
    · obtain ⟨u1, v1, c, r1, rv1, e1, e2⟩ := i2 y (by simpa using hy)
      rw [e2]
      exact eq_at e1 r1 hd rv1 rx (eq_rc I dep e1 r1 hd rv1 rx room).1
    · show Value.bool _ = Value.bool _
      rw [← i1]
      simp
  | @frl _ _ _ o h r =>
    cases hs; cases ry
    obtain ⟨its, rv, pl, _⟩ := I.list (.inl (.inr ⟨o, h⟩))
    obtain ⟨i1, i2⟩ := inO_any r rv hb
    refine notIn_listAt (eqOf H dep d) pl.isList (fun y hy => ?_) ⟨.bl _, H, I, ?_, q⟩
    · obtain ⟨u1, v1, c, r1, rv1, e1, e2⟩ := i2 y (by simpa using hy)
      rw [e2]
      exact eq_at e1 r1 hd rv1 rx (eq_rc I dep e1 r1 hd rv1 rx room).1
    · show Value.bool _ = Value.bool _
      rw [← i1]
      simp
  | tup h r =>
    cases hs; cases ry
    obtain ⟨its, rv, pl, _⟩ := I.tuple (SqT.of h)
    obtain ⟨i1, i2⟩ := inO_any r rv hb
    refine notIn_tupleAt (eqOf H dep d) pl (fun y hy => ?_) ⟨.bl _, H, I, ?_, q⟩
    · obtain ⟨u1, v1, c, r1, rv1, e1, e2⟩ := i2 y (by simpa using hy)
      rw [e2]
      exact eq_at e1 r1 hd rv1 rx (eq_rc I dep e1 r1 hd rv1 rx room).1
    · show Value.bool _ = Value.bool _
      rw [← i1]
      simp
  | _ => cases hs
end
end Dn
set_option Elab.async false
set_option linter.all false
set_option maxRecDepth 100000
set_option maxHeartbeats 2000000
namespace Dn
open PySem L2
variable [CTab]
/-! ### + - * // % ** -->  -/
def rAddU (K : PySem.W.Frag) : R2 := fun x y H Q => rI0 (fun i j => .int (i + j)) x y H Q ∨ (∃ i j, x = .str i ∧ y = .str j ∧ i.length + j.length ≤ sizeLine ∧ Q (.str (i ++ j)) H) ∨ rCat x y H Q ∨ rCatA K x y H Q
def rMulU : R2 := fun x y H Q => rI CMul (fun i j => .int (i * j)) x y H Q ∨ rRep x y H Q
section
variable {X : Cx}
theorem op_addU : OpR X (binaryOp .Add) (rAddU X.K) := op_add.or (op_add_str.or (op_cat.or op_catA))
theorem op_mulU : OpR X (binaryOp .Mult) rMulU := op_mul.or op_rep
end
def addV : U → U → Option U
  | .int i, .int j => some (.int (i + j))
  | .str i, .str j => if i.length + j.length ≤ lim then some (.str (i ++ j)) else none
  | .lst xs, .lst ys => if xs.length + ys.length ≤ lim then some (.lst (xs ++ ys)) else none
  | .tup xs, .tup ys => if xs.length + ys.length ≤ lim then some (.tup (xs ++ ys)) else none
  | _, _ => none
theorem rv_add {K : PySem.W.Frag} : RV (rAddU K) addV := fun x y z e v w B H s rx ry Q q => by
  cases rx with
  | int i =>
    cases ry with
    | int j => cases e; exact .inl ⟨i, j, rfl, rfl, q _ B H (Go.refl s) (.int _)⟩
    | _ => cases e
  | str i =>
    cases ry with
    | str j =>
      have e : (if i.length + j.length ≤ lim then some (U.str (i ++ j)) else none) = some z := e
      split at e
      · rename_i hl
        cases e; exact .inr (.inl ⟨i, j, rfl, rfl, lim_size hl, q _ B H (Go.refl s) (.str _)⟩)
      · cases e
    | _ => cases e
  | @lst a xs vs h r =>
    cases ry with
    | @lst b ys ws h' r' =>
      have e : (if xs.length + ys.length ≤ lim then some (U.lst (xs ++ ys)) else none) = some z := e
      split at e
      · rename_i hl
        cases e
        refine .inr (.inr (.inl ⟨a, b, vs, ws, rfl, rfl, s _ _ h, s _ _ h', ?_, fun p hp => q _ _ _ (Go.new s hp) (.lst upd_same ((r.append r').new s hp))⟩))
        rw [r.length, r'.length]; exact lim_size hl
      · cases e
    | _ => cases e
  | @tup a xs vs h r =>
    cases ry with
    | @tup b ys ws h' r' =>
      have e : (if xs.length + ys.length ≤ lim then some (U.tup (xs ++ ys)) else none) = some z := e
      split at e
      · rename_i hl
        cases e
        refine .inr (.inr (.inr ⟨a, b, vs, ws, rfl, rfl, SqT.of (s _ _ h), SqT.of (s _ _ h'), ?_, fun hv => ?_, fun _ hw => ?_, fun _ _ p hp => q _ _ _ (Go.new s hp) (.tup upd_same ((r.append r').new s hp))⟩))
        · rw [r.length, r'.length]; exact lim_size hl
        · subst hv; cases r; exact q _ B H (Go.refl s) (.tup h' r')
        · subst hw; cases r'; rw [List.append_nil] at q; exact q _ B H (Go.refl s) (.tup h r)
      · cases e
    | _ => cases e
  | _ => cases e
def mulV : U → U → Option U
  | .int i, .int j => if (-(2 ^ 64) < i ∧ i < 2 ^ 64) ∨ (-(2 ^ 64) < j ∧ j < 2 ^ 64) then some (.int (i * j)) else none
  | .lst xs, .int j => if 0 ≤ j ∧ j ≤ 1000 ∧ xs.length * j.toNat ≤ lim then some (.lst (List.replicate j.toNat xs).flatten) else none
  | _, _ => none
theorem Rps.flat {B : Hp} {xs : List U} {vs : List V} (r : Rps B xs vs) : ∀ n : Nat, Rps B (List.replicate n xs).flatten (List.replicate n vs).flatten
  | 0 => .nil
  | n + 1 => by
    rw [List.replicate_succ, List.replicate_succ, List.flatten_cons, List.flatten_cons]
    exact r.append (Rps.flat r n)
theorem rv_mul : RV rMulU mulV := fun x y z e v w B H s rx ry Q q => by
  cases rx with
  | int i =>
    cases ry with
    | int j =>
      have e : (if (-(2 ^ 64) < i ∧ i < 2 ^ 64) ∨ (-(2 ^ 64) < j ∧ j < 2 ^ 64) then some (U.int (i * j)) else none) = some z := e
      split at e
      · rename_i hl
        cases e; exact .inl ⟨i, j, rfl, rfl, hl, q _ B H (Go.refl s) (.int _)⟩
      · cases e
    | _ => cases e
  | @lst a xs vs h r =>
    cases ry with
    | int j =>
      have e : (if 0 ≤ j ∧ j ≤ 1000 ∧ xs.length * j.toNat ≤ lim then some (U.lst (List.replicate j.toNat xs).flatten) else none) = some z := e
      split at e
      · rename_i hl
        cases e
        refine .inr ⟨a, j, vs, rfl, rfl, s _ _ h, by omega, by omega, by rw [r.length]; exact lim_size hl.2.2, fun p hp => q _ _ _ (Go.new s hp) (.lst upd_same ((r.flat _).new s hp))⟩
      · cases e
    | _ => cases e
  | _ => cases e
def iiV (g : Int → Int → Option U) : U → U → Option U
  | .int i, .int j => g i j
  | _, _ => none
theorem rv_ii {g : Int → Int → V} {g' : Int → Int → Option U} (h : ∀ i j z, g' i j = some z → ∀ B, Rp B z (g i j)) : RV (rI0 g) (iiV g') := fun x y z e v w B H s rx ry Q q => by
  cases rx with
  | int i =>
    cases ry with
    | int j => exact ⟨i, j, rfl, rfl, q _ B H (Go.refl s) (h i j z e B)⟩
    | _ => cases e
  | _ => cases e
theorem rv_iic {C : Int → Int → Prop} {g : Int → Int → V} {g' : Int → Int → Option U} (h : ∀ i j z, g' i j = some z → C i j ∧ ∀ B, Rp B z (g i j)) : RV (rI C g) (iiV g') := fun x y z e v w B H s rx ry Q q => by
  cases rx with
  | int i =>
    cases ry with
    | int j => exact ⟨i, j, rfl, rfl, (h i j z e).1, q _ B H (Go.refl s) ((h i j z e).2 B)⟩
    | _ => cases e
  | _ => cases e
def subV : U → U → Option U := iiV fun i j => some (.int (i - j))
theorem rv_sub : RV (rI0 fun i j => .int (i - j)) subV := rv_ii fun i j z e B => by cases e; exact .int _
def ltV : U → U → Option U := iiV fun i j => some (.bl (decide (i < j)))
theorem rv_lt : RV (rI0 fun i j => .bl (decide (i < j))) ltV := rv_ii fun i j z e B => by cases e; exact .bl _
def leV : U → U → Option U := iiV fun i j => some (.bl (decide (i ≤ j)))
theorem rv_le : RV (rI0 fun i j => .bl (decide (i ≤ j))) leV := rv_ii fun i j z e B => by cases e; exact .bl _
def gtV : U → U → Option U := iiV fun i j => some (.bl (decide (j < i)))
theorem rv_gt : RV (rI0 fun i j => .bl (decide (j < i))) gtV := rv_ii fun i j z e B => by cases e; exact .bl _
def geV : U → U → Option U := iiV fun i j => some (.bl (decide (j ≤ i)))
theorem rv_ge : RV (rI0 fun i j => .bl (decide (j ≤ i))) geV := rv_ii fun i j z e B => by cases e; exact .bl _
def modV : U → U → Option U := iiV fun i j => if 0 < j then some (.int (i % j)) else none
theorem rv_mod : RV (rI (fun _ j => 0 < j) fun i j => .int (i % j)) modV := rv_iic fun i j z e => by
  split at e
  · rename_i hj
    cases e; exact ⟨hj, fun B => .int _⟩
  · cases e
def fdivV : U → U → Option U := iiV fun i j => if 0 < j ∧ j < 1073741824 then some (.int (i / j)) else none
theorem rv_fdiv : RV (rI CDiv fun i j => .int (i / j)) fdivV := rv_iic fun i j z e => by
  split at e
  · rename_i hj
    cases e; exact ⟨hj, fun B => .int _⟩
  · cases e
def powV : U → U → Option U := iiV fun i j => if 0 ≤ j ∧ j ≤ 1000000 ∧ i.natAbs < 2 ^ 64 then some (.int (i ^ j.toNat)) else none
theorem rv_pow : RV (rI CPow fun i j => .int (i ^ j.toNat)) powV := rv_iic fun i j z e => by
  split at e
  · rename_i hj
    cases e; exact ⟨hj, fun B => .int _⟩
  · cases e
def negV : U → Option U
  | .int i => some (.int (-i))
  | _ => none
theorem ru_neg : RU (rU fun i => .int (-i)) negV := fun x z e v B H s rx Q q => by
  cases rx with
  | int i => cases e; exact ⟨i, rfl, q _ B H (Go.refl s) (.int _)⟩
  | _ => cases e
/-! ### is, is not: None, truths -/
def rIsU : R2 := fun x y H Q => (y = .non ∧ Q (.bl (decide (x = .non))) H) ∨ ∃ a b, x = .bl a ∧ y = .bl b ∧ Q (.bl (decide (a = b))) H
def rIsNotU : R2 := fun x y H Q => (y = .non ∧ Q (.bl (!decide (x = .non))) H) ∨ ∃ a b, x = .bl a ∧ y = .bl b ∧ Q (.bl (!decide (a = b))) H
theorem op_isU {X : Cx} : OpR X (compareOp .Is) rIsU := op_isN.or op_is_bl
theorem op_isNotU {X : Cx} : OpR X (compareOp .IsNot) rIsNotU := op_notN.or op_isnot_bl
def U.isNon : U → Bool
  | .non => true
  | _ => false
def isB : U → U → Option Bool
  | x, .non => some x.isNon
  | .bl a, .bl b => some (decide (a = b))
  | _, _ => none
theorem Rp.isNon {B : Hp} {x : U} {v : V} (r : Rp B x v) : x.isNon = decide (v = .non) := by
  cases r with
  | non => rfl
  | _ => rw [decide_eq_false (fun z => nomatch z)]; rfl
def isV (x y : U) : Option U := (isB x y).map U.bl
def isNotV (x y : U) : Option U := (isB x y).map fun b => U.bl (!b)
theorem rv_is : RV rIsU isV := fun x y z e v w B H s rx ry Q q => by
  obtain ⟨b, eb, e⟩ := map_some e
  subst e
  cases ry with
  | non =>
    have eb : some x.isNon = some b := by cases x <;> exact eb
    cases eb
    rw [rx.isNon] at q
    exact .inl ⟨rfl, q _ B H (Go.refl s) (.bl _)⟩
  | bl c =>
    cases rx with
    | bl a => cases eb; exact .inr ⟨a, c, rfl, rfl, q _ B H (Go.refl s) (.bl _)⟩
    | _ => cases eb
  | _ => cases rx <;> cases eb
theorem rv_isNot : RV rIsNotU isNotV := fun x y z e v w B H s rx ry Q q => by
  obtain ⟨b, eb, e⟩ := map_some e
  subst e
  cases ry with
  | non =>
    have eb : some x.isNon = some b := by cases x <;> exact eb
    cases eb
    rw [rx.isNon] at q
    exact .inl ⟨rfl, q _ B H (Go.refl s) (.bl _)⟩
  | bl c =>
    cases rx with
    | bl a => cases eb; exact .inr ⟨a, c, rfl, rfl, q _ B H (Go.refl s) (.bl _)⟩
    | _ => cases eb
  | _ => cases rx <;> cases eb
/-! ### in: lists, tuples; one sign in a text; a key in a dict -/
def U.key : U → Option Key
  | .int i => some (.inl i)
  | .str s => some (.inr s)
  | _ => none
def keysL : List U → Option (List Key)
  | [] => some []
  | x :: xs => x.key.bind fun k => (keysL xs).map fun r => k :: r
def lookK {κ : Type} [DecidableEq κ] (kvs : List (κ × U)) (k : κ) : Option U := (kvs.find? fun kv => decide (kv.1 = k)).map (·.2)
/-- what a dict has at a key; none: no such thing can be asked -/
def dgetO : U → U → Option (Option U)
  | .dic kvs, y => y.key.map fun k => lookK kvs k
  | .dit kvs, .tup ys => (keysL ys).map fun k => lookK kvs k
  | _, _ => none
theorem Rp.key {B : Hp} {x : U} {v : V} {k : Key} (r : Rp B x v) (h : x.key = some k) : v = kV k := by
  cases r with
  | int i => cases h; rfl
  | str i => cases h; rfl
  | _ => cases h
theorem Rps.keys {B : Hp} : ∀ {xs : List U} {vs : List V} {k : List Key}, Rps B xs vs → keysL xs = some k → vs = k.map kV
  | _, _, _, .nil, h => by cases h; rfl
  | _, _, _, .cons r t, h => by
    obtain ⟨a, ea, h⟩ := bind_some h
    obtain ⟨c, ec, h⟩ := map_some h
    subst h
    rw [List.map_cons, r.key ea, t.keys ec]
theorem Rpk.look {B : Hp} (k : Key) : ∀ {xs : List (Key × U)} {vs : List (Key × V)}, Rpk B xs vs → (∀ x, lookK xs k = some x → ∃ v, valV vs k = some v ∧ Rp B x v) ∧ (lookK xs k = none → valV vs k = none)
  | _, _, .nil => ⟨fun x h => (by cases h), fun _ => rfl⟩
  | _, _, @Rpk.cons _ _ k' x v xs vs r t => by
    obtain ⟨i1, i2⟩ := Rpk.look k t
    by_cases e : k' = k
    · subst e
      have e1 : lookK ((k', x) :: xs) k' = some x := by simp [lookK]
      have e2 : valV ((k', v) :: vs) k' = some v := by simp [valV]
      rw [e1, e2]
      exact ⟨fun y h => by cases h; exact ⟨v, rfl, r⟩, fun h => by cases h⟩
    · have e1 : lookK ((k', x) :: xs) k = lookK xs k := by simp [lookK, e]
      have e2 : valV ((k', v) :: vs) k = valV vs k := by simp [valV, e]
      rw [e1, e2]
      exact ⟨i1, i2⟩
theorem Rpt.look {B : Hp} (k : List Key) : ∀ {xs : List (List Key × U)} {vs : List (List Key × V)}, Rpt B xs vs → (∀ x, lookK xs k = some x → ∃ v, valV vs k = some v ∧ Rp B x v) ∧ (lookK xs k = none → valV vs k = none)
  | _, _, .nil => ⟨fun x h => (by cases h), fun _ => rfl⟩
  | _, _, @Rpt.cons _ _ k' x v xs vs r t => by
    obtain ⟨i1, i2⟩ := Rpt.look k t
    by_cases e : k' = k
    · subst e
      have e1 : lookK ((k', x) :: xs) k' = some x := by simp [lookK]
      have e2 : valV ((k', v) :: vs) k' = some v := by simp [valV]
      rw [e1, e2]
      exact ⟨fun y h => by cases h; exact ⟨v, rfl, r⟩, fun h => by cases h⟩
    · have e1 : lookK ((k', x) :: xs) k = lookK xs k := by simp [lookK, e]
      have e2 : valV ((k', v) :: vs) k = valV vs k := by simp [valV, e]
      rw [e1, e2]
      exact ⟨i1, i2⟩
end Dn
set_option Elab.async false
set_option linter.all false
set_option maxRecDepth 100000
set_option maxHeartbeats 2000000
namespace Dn
open PySem L2
variable [CTab]
theorem CallR.or {X : Cx} {f : Value} {r r' : List V → Hp → VK → Prop} (h : CallR X f r) (h' : CallR X f r') : CallR X f (fun xs H Q => r xs H Q ∨ r' xs H Q) := by
  intro pins s σ H xs us Q I rx q
  rcases q with q | q
  · exact h pins s σ H xs us Q I rx q
  · exact h' pins s σ H xs us Q I rx q
/-! ### a dict asked -/
theorem dget_of {x y : U} {v w : V} {B H : Hp} {o : Option U} (h : dgetO x y = some o) (s : Same B H) (rx : Rp B x v) (ry : Rp B y w) :
    ∃ a r, v = .ref a ∧ DGet H a w r ∧ r.isSome = o.isSome ∧ ∀ z, o = some z → ∃ u, r = some u ∧ Rp B z u := by
  cases rx with
  | @dic a kvs es ob e r =>
    have h : y.key.map (fun k => lookK kvs k) = some o := by cases y <;> exact h
    obtain ⟨k, ek, h⟩ := map_some h
    obtain ⟨i1, i2⟩ := r.look k
    refine ⟨a, valV es k, rfl, .inl ⟨es, k, .inr ⟨ob, s _ _ e⟩, ry.key ek, rfl⟩, ?_, fun z ez => ?_⟩
    · cases eo : o with
      | none => rw [i2 (by rw [h, eo])]; rfl
      | some z => obtain ⟨u, e1, _⟩ := i1 z (by rw [h, eo]); rw [e1]; rfl
    · obtain ⟨u, e1, e2⟩ := i1 z (by rw [h, ez])
      exact ⟨u, e1, e2⟩
  | @dit a kvs es ob e r =>
    cases ry with
    | @tup b ys ws e' r' =>
      obtain ⟨k, ek, h⟩ := map_some h
      obtain ⟨i1, i2⟩ := r.look k
      have hk := r'.keys ek
      refine ⟨a, valV es k, rfl, .inr ⟨es, k, b, .inr ⟨ob, s _ _ e⟩, rfl, by rw [← hk]; exact s _ _ e', rfl⟩, ?_, fun z ez => ?_⟩
      · cases eo : o with
        | none => rw [i2 (by rw [h, eo])]; rfl
        | some z => obtain ⟨u, e1, _⟩ := i1 z (by rw [h, eo]); rw [e1]; rfl
      · obtain ⟨u, e1, e2⟩ := i1 z (by rw [h, ez])
        exact ⟨u, e1, e2⟩
    | _ => cases h
  | _ => cases h
/-! ### in -/
def U.sign : U → Option Nat
  | .str s => match s.cps.toList with
    | [c] => some c
    | _ => none
  | _ => none
def inB : U → U → Option Bool
  | x, .lst xs => inO dep x xs
  | x, .tup xs => inO dep x xs
  | x, .frl xs => inO dep x xs
  | x, .dic kvs => (dgetO (.dic kvs) x).map Option.isSome
  | x, .dit kvs => (dgetO (.dit kvs) x).map Option.isSome
  | x, .str z => x.sign.map fun c => decide (c ∈ z.cps.toList)
  | _, _ => none
def rDIn (neg : Bool) : R2 := fun x y H Q => ∃ a o, y = .ref a ∧ DGet H a x o ∧ Q (.bl (if neg then !o.isSome else o.isSome)) H
def rSIn (neg : Bool) : R2 := fun x y H Q => ∃ (c : Nat) (z : Str), x = .str ⟨#[c]⟩ ∧ y = .str z ∧ Q (.bl (if neg then !decide (c ∈ z.cps.toList) else decide (c ∈ z.cps.toList))) H
def rInA (neg : Bool) : R2 := fun x y H Q => rInU neg x y H Q ∨ rDIn neg x y H Q ∨ rSIn neg x y H Q
section
variable {X : Cx}
theorem op_dIn (hu : X.A.units + 1 < cLine) : OpR X (compareOp .In) (rDIn false) := by
  intro pins s σ H x y v u Q I rx ry h
  obtain ⟨a, o, rfl, g, q⟩ := h
  cases ry
  exact d_in hu I g rx fun s3 I3 => ⟨.bl o.isSome, H, I3, rfl, q⟩
theorem op_dNotIn (hu : X.A.units + 1 < cLine) : OpR X (compareOp .NotIn) (rDIn true) := by
  intro pins s σ H x y v u Q I rx ry h
  obtain ⟨a, o, rfl, g, q⟩ := h
  cases ry
  exact d_notIn hu I g rx fun s3 I3 => ⟨.bl (!o.isSome), H, I3, rfl, q⟩
theorem op_inA (hu : X.A.units + 64 < cLine) : OpR X (compareOp .In) (rInA false) := (op_inU hu).or ((op_dIn (by omega)).or op_in_sign)
theorem op_notInA (hu : X.A.units + 64 < cLine) : OpR X (compareOp .NotIn) (rInA true) := (op_notInU hu).or ((op_dNotIn (by omega)).or op_notIn_sign)
end
theorem inA_of {neg : Bool} {x y : U} {b : Bool} (e : inB x y = some b) {v w : V} {B H : Hp} (s : Same B H) (rx : Rp B x v) (ry : Rp B y w) {Q : VK} (q : Q (.bl (if neg then !b else b)) H) : rInA neg v w H Q := by
  cases ry with
  | lst h r =>
    exact .inl ⟨x, _, _, b, rx.in s, (Rp.lst h r).in s, rfl, e, q⟩
  | tup h r =>
    exact .inl ⟨x, _, _, b, rx.in s, (Rp.tup h r).in s, rfl, e, q⟩
  | frl h r =>
    exact .inl ⟨x, _, _, b, rx.in s, (Rp.frl h r).in s, rfl, e, q⟩
  | @dic a kvs es ob h r =>
    obtain ⟨o, eo, e⟩ := map_some e
    obtain ⟨a, r', ea, g, h1, _⟩ := dget_of eo s (.dic h r) rx
    subst e
    rw [← h1] at q
    exact .inr (.inl ⟨a, r', ea, g, q⟩)
  | @dit a kvs es ob h r =>
    obtain ⟨o, eo, e⟩ := map_some e
    obtain ⟨a, r', ea, g, h1, _⟩ := dget_of eo s (.dit h r) rx
    subst e
    rw [← h1] at q
    exact .inr (.inl ⟨a, r', ea, g, q⟩)
  | str z =>
    obtain ⟨c, ec, e⟩ := map_some e
    subst e
    cases rx with
    | str t =>
      have ec : (match t.cps.toList with | [c] => some c | _ => none) = some c := ec
      split at ec
      · rename_i c' hc
        cases ec
        have e1 : t = ⟨#[c]⟩ := by
          cases t with
          | mk cps =>
            have : cps = #[c] := by
              apply Array.ext'
              simpa using hc
            rw [this]
        subst e1
        exact .inr (.inr ⟨c, z, rfl, rfl, q⟩)
      · cases ec
    | _ => cases ec
  | _ => cases e
def inV2 (x y : U) : Option U := (inB x y).map U.bl
def notInV2 (x y : U) : Option U := (inB x y).map fun b => U.bl (!b)
theorem rv_in : RV (rInA false) inV2 := fun x y z e v w B H s rx ry Q q => by
  obtain ⟨b, eb, e⟩ := map_some e
  subst e
  exact inA_of eb s rx ry (q _ B H (Go.refl s) (.bl _))
theorem rv_notIn : RV (rInA true) notInV2 := fun x y z e v w B H s rx ry Q q => by
  obtain ⟨b, eb, e⟩ := map_some e
  subst e
  exact inA_of eb s rx ry (q _ B H (Go.refl s) (.bl _))
/-! ### subscripts -/
def U.items : U → Option (List U)
  | .lst xs => some xs
  | .tup xs => some xs
  | .frl xs => some xs
  | _ => none
def U.tupQ : U → Bool
  | .tup _ => true
  | _ => false
/-- what is walked and read by place -/
theorem items_of {K : PySem.W.Frag} {x : U} {xs : List U} {v : V} {B H : Hp} (h : x.items = some xs) (s : Same B H) (r : Rp B x v) : ∃ a vs, v = .ref a ∧ Rps B xs vs ∧ ((SqL K H a vs ∧ x.tupQ = false) ∨ (SqT K H a vs ∧ x.tupQ = true)) := by
  cases r with
  | @lst a _ vs e r => cases h; exact ⟨a, vs, rfl, r, .inl ⟨SqL.of (s _ _ e), rfl⟩⟩
  | @tup a _ vs e r => cases h; exact ⟨a, vs, rfl, r, .inr ⟨SqT.of (s _ _ e), rfl⟩⟩
  | @frl a _ vs o e r => cases h; exact ⟨a, vs, rfl, r, .inl ⟨.inl (.inr ⟨o, s _ _ e⟩), rfl⟩⟩
  | _ => cases h
def rIxD : R2 := fun x y H Q => ∃ a v, x = .ref a ∧ DGet H a y (some v) ∧ Q v H
def rIxA (K : PySem.W.Frag) : R2 := fun x y H Q => rIx K x y H Q ∨ rIxD x y H Q
section
variable {X : Cx}
theorem ix_dict (hu : X.A.units + 1 < cLine) : IxR X rIxD := by
  intro value slice pins s σ H x y v u Q I rx ry h hs
  obtain ⟨a, z, rfl, g, q⟩ := h
  cases rx
  exact PyProof.Rows.tail_any (dict_typeIs I g) PySem.F.slot_dict_getitem.lookup (d_getItem hu I g ry fun w' s3 I3 rw' => ⟨z, H, I3, rw', q⟩) hs
theorem ix_any (hu : X.A.units + 64 < cLine) : IxR X (rIxA X.K) := ix_seq.or (ix_dict (by omega))
end
def getV : U → U → Option U
  | .lst xs, .int i => atI xs i
  | .tup xs, .int i => atI xs i
  | .frl xs, .int i => atI xs i
  | .str z, .int i => if z.length ≤ lim then (atI z.cps.toList i).map fun c => .str ⟨#[c]⟩ else none
  | .dic kvs, y => (dgetO (.dic kvs) y).bind id
  | .dit kvs, y => (dgetO (.dit kvs) y).bind id
  | _, _ => none
theorem Rps.atI {B : Hp} {xs : List U} {vs : List V} (r : Rps B xs vs) {i : Int} {x : U} (h : L2.atI xs i = some x) : ∃ v, L2.atI vs i = some v ∧ Rp B x v := by
  unfold L2.atI at h ⊢
  rw [r.length]
  obtain ⟨j, ej, h⟩ := bind_some h
  obtain ⟨v, ev, rv⟩ := r.get h
  exact ⟨v, by rw [ej]; exact ev, rv⟩
theorem atI_map {α β : Type} {f : α → β} {xs : List α} {i : Int} {x : α} (h : atI xs i = some x) : atI (xs.map f) i = some (f x) := by
  unfold atI at h ⊢
  rw [List.length_map]
  obtain ⟨j, ej, h⟩ := bind_some h
  rw [ej]
  show (xs.map f)[j]? = _
  rw [List.getElem?_map, h]
  rfl
theorem rv_get {K : PySem.W.Frag} : RV (rIxA K) getV := fun x y z e v w B H s rx ry Q q => by
  cases rx with
  | @lst a xs vs h r =>
    cases ry with
    | int i =>
      obtain ⟨u, eu, ru⟩ := r.atI e
      exact .inl (.inl ⟨a, vs, i, u, rfl, rfl, SqL.of (s _ _ h), eu, q _ B H (Go.refl s) ru⟩)
    | _ => cases e
  | @tup a xs vs h r =>
    cases ry with
    | int i =>
      obtain ⟨u, eu, ru⟩ := r.atI e
      exact .inl (.inr (.inl ⟨a, vs, i, u, rfl, rfl, SqT.of (s _ _ h), eu, q _ B H (Go.refl s) ru⟩))
    | _ => cases e
  | @frl a xs vs o h r =>
    cases ry with
    | int i =>
      obtain ⟨u, eu, ru⟩ := r.atI e
      exact .inl (.inl ⟨a, vs, i, u, rfl, rfl, .inl (.inr ⟨o, s _ _ h⟩), eu, q _ B H (Go.refl s) ru⟩)
    | _ => cases e
  | str t =>
    cases ry with
    | int i =>
      have e : (if t.length ≤ lim then (atI t.cps.toList i).map (fun c => U.str ⟨#[c]⟩) else none) = some z := e
      split at e
      · rename_i hl
        obtain ⟨c, ec, e⟩ := map_some e
        subst e
        exact .inl (.inr (.inr ⟨t, i, c, rfl, rfl, lim_size hl, ec, q _ B H (Go.refl s) (.str _)⟩))
      · cases e
    | _ => cases e
  | @dic a kvs es ob h r =>
    have e : (dgetO (.dic kvs) y).bind id = some z := by cases y <;> exact e
    obtain ⟨o, eo, e⟩ := bind_some e
    obtain ⟨a, r', ea, g, _, h2⟩ := dget_of eo s (.dic h r) ry
    obtain ⟨u, eu, ru⟩ := h2 z e
    exact .inr ⟨a, u, ea, by rw [← eu]; exact g, q _ B H (Go.refl s) ru⟩
  | @dit a kvs es ob h r =>
    have e : (dgetO (.dit kvs) y).bind id = some z := by cases y <;> exact e
    obtain ⟨o, eo, e⟩ := bind_some e
    obtain ⟨a, r', ea, g, _, h2⟩ := dget_of eo s (.dit h r) ry
    obtain ⟨u, eu, ru⟩ := h2 z e
    exact .inr ⟨a, u, ea, by rw [← eu]; exact g, q _ B H (Go.refl s) ru⟩
  | _ => cases e
/-! ### slices -/
def cutU (xs : List U) (lo hi : Option Int) : List U := (xs.drop (HT.sIx xs.length 0 lo)).take (HT.sIx xs.length xs.length hi - HT.sIx xs.length 0 lo)
theorem Rps.cut {B : Hp} {xs : List U} {vs : List V} (r : Rps B xs vs) (lo hi : Option Int) : Rps B (cutU xs lo hi) (cutV vs lo hi) := by
  unfold cutU cutV
  rw [r.length]
  exact (r.drop _).take _
def rSlU (K : PySem.W.Frag) : V → Option Int → Option Int → Hp → VK → Prop := fun x lo hi H Q => rSlL K x lo hi H Q ∨ rSlA K x lo hi H Q ∨ rSlS x lo hi H Q
theorem sl_any {X : Cx} : SlR X (rSlU X.K) := sl_list.or (sl_tupA.or sl_str)
def sliceV : U → Option Int → Option Int → Option U
  | .lst xs, lo, hi => some (.lst (cutU xs lo hi))
  | .frl xs, lo, hi => some (.lst (cutU xs lo hi))
  | .tup xs, lo, hi => some (.tup (cutU xs lo hi))
  | .str z, lo, hi => if z.length ≤ lim then some (.str (cutS z lo hi)) else none
  | _, _, _ => none
def U.asI : U → Option Int
  | .int i => some i
  | _ => none
def EvP (tp : TO) (σ : St) (B H : Hp) (o : Option (Option Int)) : Prop :=
  ∀ z, o = some z → ∀ B1 H1, At B B1 H1 → ∀ Q : Option Int → Hp → Prop, (∀ B2 H2, Go B1 H1 B2 H2 → Q z H2) → tp σ H1 Q
theorem cutU_whole {xs : List U} {lo hi : Option Int} (h : HT.sIx xs.length 0 lo = 0 ∧ HT.sIx xs.length xs.length hi = xs.length) : cutU xs lo hi = xs := by
  unfold cutU
  rw [h.1, h.2]
  simp
section
variable {σ : St} {B H : Hp} {te : TE} {tl th : TO} {oa : Option U} {ol oh : Option (Option Int)} {K : PySem.W.Frag}
theorem ep_no : EvP tNoPart σ B H (some none) := fun z e B1 H1 g Q q => by cases e; exact q B1 H1 (Go.refl g.bh)
theorem ep_of (h : EvO te σ B H oa) : EvP (tPart te) σ B H ((oa.bind U.asI).map some) := fun z e B1 H1 g Q q => by
  obtain ⟨i, ei, e⟩ := map_some e
  obtain ⟨x, ex, ei⟩ := bind_some ei
  subst e
  cases x <;> cases ei
  exact h _ ex B1 H1 g _ fun v B2 H2 g2 r => by cases r; exact ⟨_, rfl, q B2 H2 g2⟩
theorem eo_slice (h : EvO te σ B H oa) (hl : EvP tl σ B H ol) (hh : EvP th σ B H oh) : EvO (tSl (rSlU K) te tl th) σ B H (oa.bind fun x => ol.bind fun l => oh.bind fun u => sliceV x l u) := fun z e B1 H1 g Q q => by
  obtain ⟨x, ex, e⟩ := bind_some e
  obtain ⟨lo, el, e⟩ := bind_some e
  obtain ⟨hi, eh, e⟩ := bind_some e
  refine h x ex B1 H1 g _ fun v B2 H2 g2 r2 => hl lo el B2 H2 (g.trans g2) _ fun B3 H3 g3 => hh hi eh B3 H3 ((g.trans g2).trans g3) _ fun B4 H4 g4 => ?_
  have g24 := g3.trans g4
  have r := r2.up g24
  have gg := g2.trans g24
  have s := g4.bh
  cases r with
  | @lst a xs vs e1 r1 =>
    cases e
    exact .inl ⟨a, vs, rfl, SqL.of (s _ _ e1), fun p hp => q _ _ _ (gg.trans (Go.new s hp)) (.lst upd_same ((r1.cut lo hi).new s hp))⟩
  | @frl a xs vs o e1 r1 =>
    cases e
    exact .inl ⟨a, vs, rfl, .inl (.inr ⟨o, s _ _ e1⟩), fun p hp => q _ _ _ (gg.trans (Go.new s hp)) (.lst upd_same ((r1.cut lo hi).new s hp))⟩
  | @tup a xs vs e1 r1 =>
    cases e
    refine .inr (.inl ⟨a, vs, rfl, SqT.of (s _ _ e1), fun hw => ?_, fun _ p hp => q _ _ _ (gg.trans (Go.new s hp)) (.tup upd_same ((r1.cut lo hi).new s hp))⟩)
    rw [r1.length] at hw
    rw [cutU_whole hw] at q
    exact q _ B4 H4 gg (.tup e1 r1)
  | str t =>
    have e : (if t.length ≤ lim then some (U.str (cutS t lo hi)) else none) = some z := e
    split at e
    · rename_i hl
      cases e
      exact .inr (.inr ⟨t, rfl, lim_size hl, q _ B4 H4 gg (.str _)⟩)
    · cases e
  | _ => cases e
end
/-! ### len -/
def rLenR : List V → Hp → VK → Prop := fun xs H Q => (∃ a kvs, xs = [V.ref a] ∧ Rd H a (.dK kvs) ∧ Q (.int kvs.length) H)
theorem call_lenR {X : Cx} : CallR X (.builtin "len") rLenR := by
  intro pins s σ H xs us Q I r h
  obtain ⟨a, kvs, rfl, ha, q⟩ := h
  obtain ⟨u, rfl, ru⟩ := vals1 r
  cases ru
  exact d_len I ha fun t s' I' => ⟨.int kvs.length, H, I', ⟨t, rfl⟩, q⟩
def rLenA (K : PySem.W.Frag) : List V → Hp → VK → Prop := fun xs H Q => (∃ p ys, xs = [.ref p] ∧ (SqL K H p ys ∨ SqT K H p ys) ∧ Q (.int ys.length) H) ∨ (∃ z, xs = [.str z] ∧ z.length ≤ sizeLine ∧ Q (.int z.length) H) ∨ rLenR xs H Q
theorem call_lenA {X : Cx} : CallR X (.builtin "len") (rLenA X.K) := CallR.or call_len_seq (CallR.or call_len_str call_lenR)
def lenV : List U → Option U
  | [.lst xs] => some (.int xs.length)
  | [.tup xs] => some (.int xs.length)
  | [.frl xs] => some (.int xs.length)
  | [.str z] => if z.length ≤ lim then some (.int z.length) else none
  | [.dic kvs] => some (.int kvs.length)
  | _ => none
theorem Rpk.length {B : Hp} : ∀ {xs : List (Key × U)} {vs : List (Key × V)}, Rpk B xs vs → vs.length = xs.length
  | _, _, .nil => rfl
  | _, _, .cons _ t => by rw [List.length_cons, List.length_cons, Rpk.length t]
theorem rc_one {f : List U → Option U} {r : List V → Hp → VK → Prop} (hn : ∀ xs z, f xs = some z → ∃ x, xs = [x])
    (h : ∀ x z, f [x] = some z → ∀ v B H, Same B H → Rp B x v → ∀ Q : VK, (∀ v2 B2 H2, Go B H B2 H2 → Rp B2 z v2 → Q v2 H2) → r [v] H Q) : RC r f := fun xs z e vs B H s rs Q q => by
  obtain ⟨x, rfl⟩ := hn xs z e
  cases rs with
  | cons r1 t => cases t; exact h x z e _ B H s r1 Q q
theorem rc_len {K : PySem.W.Frag} : RC (rLenA K) lenV := rc_one (fun xs z e => by
    match xs, e with
    | [x], _ => exact ⟨x, rfl⟩
    | [], e => cases e
    | x :: y :: r, e => cases x <;> cases e) fun x z e v B H s rx Q q => by
  cases rx with
  | @lst a xs vs h r => cases e; rw [← r.length] at q; exact .inl ⟨a, vs, rfl, .inl (SqL.of (s _ _ h)), q _ B H (Go.refl s) (.int _)⟩
  | @tup a xs vs h r => cases e; rw [← r.length] at q; exact .inl ⟨a, vs, rfl, .inr (SqT.of (s _ _ h)), q _ B H (Go.refl s) (.int _)⟩
  | @frl a xs vs o h r => cases e; rw [← r.length] at q; exact .inl ⟨a, vs, rfl, .inl (.inl (.inr ⟨o, s _ _ h⟩)), q _ B H (Go.refl s) (.int _)⟩
  | str t =>
    have e : (if t.length ≤ lim then some (U.int t.length) else none) = some z := e
    split at e
    · rename_i hl
      cases e
      exact .inr (.inl ⟨t, rfl, lim_size hl, q _ B H (Go.refl s) (.int _)⟩)
    · cases e
  | @dic a kvs es ob h r => cases e; rw [← r.length] at q; exact .inr (.inr ⟨a, es, rfl, .inr ⟨ob, s _ _ h⟩, q _ B H (Go.refl s) (.int _)⟩)
  | _ => cases e
/-! ### isinstance -/
def U.tyn : U → Option String
  | .non => some "NoneType"
  | .bl _ => some "bool"
  | .int _ => some "int"
  | .str _ => some "str"
  | .tup _ => some "tuple"
  | .lst _ => some "list"
  | .frl _ => some "list"
  | .dic _ => some "dict"
  | .dit _ => none
  | .obj _ _ => none
theorem tyx_of {K : PySem.W.Frag} {x : U} {v : V} {B H : Hp} {T : String} (h : x.tyn = some T) (s : Same B H) (r : Rp B x v) : TyX K H v (.type T) := by
  cases r with
  | non => cases h; exact .base .non
  | bl b => cases h; exact .base (.bl b)
  | int b => cases h; exact .base (.int b)
  | str b => cases h; exact .base (.str b)
  | tup e _ => cases h; exact .base (.tup (s _ _ e))
  | lst e _ => cases h; exact .base (.lst (s _ _ e))
  | frl e r => cases h; exact .base (.frz (s _ _ e))
  | dic e _ =>
    cases h
    exact .fDict (s _ _ e)
  | dit e _ => cases h
  | obj _ _ _ => cases h
def isStrB : U → Option Bool
  | .str _ => some true
  | .dit _ => none
  | .obj _ _ => none
  | _ => some false
def isIntB : U → Option Bool
  | .int _ => some true
  | .bl _ => some true
  | .dit _ => none
  | .obj _ _ => none
  | _ => some false
def isBoolB : U → Option Bool
  | .bl _ => some true
  | .dit _ => none
  | .obj _ _ => none
  | _ => some false
def isTupB : U → Option Bool
  | .tup _ => some true
  | .dit _ => none
  | .obj _ _ => none
  | _ => some false
theorem isStr_kit {x : U} {b : Bool} (h : isStrB x = some b) : ∃ T, x.tyn = some T ∧ kitB T "str" = some b := by
  cases x <;> cases h <;> exact ⟨_, rfl, by decide +kernel⟩
theorem isInt_kit {x : U} {b : Bool} (h : isIntB x = some b) : ∃ T, x.tyn = some T ∧ kitB T "int" = some b := by
  cases x <;> cases h <;> exact ⟨_, rfl, by decide +kernel⟩
theorem isBool_kit {x : U} {b : Bool} (h : isBoolB x = some b) : ∃ T, x.tyn = some T ∧ kitB T "bool" = some b := by
  cases x <;> cases h <;> exact ⟨_, rfl, by decide +kernel⟩
theorem isTup_kit {x : U} {b : Bool} (h : isTupB x = some b) : ∃ T, x.tyn = some T ∧ kitB T "tuple" = some b := by
  cases x <;> cases h <;> exact ⟨_, rfl, by decide +kernel⟩
section
variable {σ : St} {B H : Hp} {te : TE} {oa : Option U} {K : PySem.W.Frag}
theorem eo_isi {T : String} {f : U → Option Bool} (hf : ∀ {x b}, f x = some b → ∃ S, x.tyn = some S ∧ kitB S T = some b) (h : EvO te σ B H oa) :
    EvO (tCB (rIsi K) (tCons te (tCons (tC (.ty T)) tNil))) σ B H (oa.bind fun x => (f x).map U.bl) := fun z e B1 H1 g Q q => by
  obtain ⟨x, ex, e⟩ := bind_some e
  obtain ⟨b, eb, e⟩ := map_some e
  subst e
  obtain ⟨S, e1, e2⟩ := hf eb
  exact h x ex B1 H1 g _ fun v B2 H2 g2 r => ⟨v, .ty T, .type S, .type T, b, rfl, .ty T, tyx_of e1 g2.bh r, kit_ty e2, q _ B2 H2 g2 (.bl b)⟩
theorem eo_isStr (h : EvO te σ B H oa) : EvO (tCB (rIsi K) (tCons te (tCons (tC (.ty "str")) tNil))) σ B H (oa.bind fun x => (isStrB x).map U.bl) := eo_isi isStr_kit h
theorem eo_isInt (h : EvO te σ B H oa) : EvO (tCB (rIsi K) (tCons te (tCons (tC (.ty "int")) tNil))) σ B H (oa.bind fun x => (isIntB x).map U.bl) := eo_isi isInt_kit h
theorem eo_isBool (h : EvO te σ B H oa) : EvO (tCB (rIsi K) (tCons te (tCons (tC (.ty "bool")) tNil))) σ B H (oa.bind fun x => (isBoolB x).map U.bl) := eo_isi isBool_kit h
theorem eo_isTup (h : EvO te σ B H oa) : EvO (tCB (rIsi K) (tCons te (tCons (tC (.ty "tuple")) tNil))) σ B H (oa.bind fun x => (isTupB x).map U.bl) := eo_isi isTup_kit h
end
/-! ### all, any, sum, list(), tuple(), abs, min, max, int() -/
def bools : List U → Option (List Bool)
  | [] => some []
  | .bl b :: xs => (bools xs).map fun r => b :: r
  | _ :: _ => none
def intsU : List U → Option (List Int)
  | [] => some []
  | .int b :: xs => (intsU xs).map fun r => b :: r
  | _ :: _ => none
theorem Rps.bools {B : Hp} : ∀ {xs : List U} {vs : List V} {bs : List Bool}, Rps B xs vs → Dn.bools xs = some bs → vs = bs.map V.bl
  | _, _, _, .nil, h => by cases h; rfl
  | _, _, _, .cons r t, h => by
    cases r with
    | bl b =>
      obtain ⟨c, ec, h⟩ := map_some h
      subst h
      rw [List.map_cons, t.bools ec]
    | _ => cases h
theorem Rps.intsOf {B : Hp} : ∀ {xs : List U} {vs : List V} {bs : List Int}, Rps B xs vs → intsU xs = some bs → vs = bs.map V.int
  | _, _, _, .nil, h => by cases h; rfl
  | _, _, _, .cons r t, h => by
    cases r with
    | int b =>
      obtain ⟨c, ec, h⟩ := map_some h
      subst h
      rw [List.map_cons, t.intsOf ec]
    | _ => cases h
/-- a call of one argument -/
def c1 (f : U → Option U) : List U → Option U
  | [x] => f x
  | _ => none
theorem c1_one {f : U → Option U} : ∀ xs z, c1 f xs = some z → ∃ x, xs = [x]
  | [x], _, _ => ⟨x, rfl⟩
  | [], _, e => by cases e
  | _ :: _ :: _, _, e => by cases e
def allV : U → Option U
  | .lst xs => (bools xs).map fun bs => .bl (bs.all id)
  | _ => none
def anyV : U → Option U
  | .lst xs => (bools xs).map fun bs => .bl (bs.any id)
  | _ => none
def sumV : U → Option U
  | .lst xs => (intsU xs).map fun bs => .int bs.sum
  | _ => none
theorem rc_all {K : PySem.W.Frag} : RC (rAll K) (c1 allV) := rc_one c1_one fun x z e v B H s rx Q q => by
  cases rx with
  | @lst a xs vs h r =>
    obtain ⟨bs, eb, e⟩ := map_some e
    subst e
    exact ⟨a, bs, rfl, by rw [← r.bools eb]; exact SqL.of (s _ _ h), q _ B H (Go.refl s) (.bl _)⟩
  | _ => cases e
theorem rc_any {K : PySem.W.Frag} : RC (rAny K) (c1 anyV) := rc_one c1_one fun x z e v B H s rx Q q => by
  cases rx with
  | @lst a xs vs h r =>
    obtain ⟨bs, eb, e⟩ := map_some e
    subst e
    exact ⟨a, bs, rfl, by rw [← r.bools eb]; exact SqL.of (s _ _ h), q _ B H (Go.refl s) (.bl _)⟩
  | _ => cases e
theorem rc_sum {K : PySem.W.Frag} : RC (rSum K) (c1 sumV) := rc_one c1_one fun x z e v B H s rx Q q => by
  cases rx with
  | @lst a xs vs h r =>
    obtain ⟨bs, eb, e⟩ := map_some e
    subst e
    exact ⟨a, bs, rfl, by rw [← r.intsOf eb]; exact SqL.of (s _ _ h), q _ B H (Go.refl s) (.int _)⟩
  | _ => cases e
def rListA (K : PySem.W.Frag) : List V → Hp → VK → Prop := fun xs H Q => (∃ p ys, xs = [.ref p] ∧ (SqL K H p ys ∨ SqT K H p ys) ∧ ∀ l, H l = none → Q (.ref l) (upd H l (.lst ys))) ∨ rListD xs H Q
theorem call_listA {X : Cx} (hc : X.calm = true) : CallR X (.type "list") (rListA X.K) := CallR.or call_list_of (call_list_dK hc)
def kU : Key → U
  | .inl i => .int i
  | .inr x => .str x
theorem rp_key {B : Hp} (k : Key) : Rp B (kU k) (kV k) := by
  cases k with
  | inl i => exact .int i
  | inr i => exact .str i
theorem Rpk.keys {B : Hp} : ∀ {xs : List (Key × U)} {vs : List (Key × V)}, Rpk B xs vs → Rps B (xs.map fun kv => kU kv.1) (vs.map fun kv => kV kv.1)
  | _, _, .nil => .nil
  | _, _, .cons _ t => .cons (rp_key _) (Rpk.keys t)
def listV : U → Option U
  | .lst xs => some (.lst xs)
  | .tup xs => some (.lst xs)
  | _ => none
def tupleV : U → Option U
  | .lst xs => some (.tup xs)
  | .tup xs => some (.tup xs)
  | _ => none
theorem rc_list {K : PySem.W.Frag} : RC (rListA K) (c1 listV) := rc_one c1_one fun x z e v B H s rx Q q => by
  cases rx with
  | @lst a xs vs h r => cases e; exact .inl ⟨a, vs, rfl, .inl (SqL.of (s _ _ h)), fun p hp => q _ _ _ (Go.new s hp) (.lst upd_same (r.new s hp))⟩
  | @tup a xs vs h r => cases e; exact .inl ⟨a, vs, rfl, .inr (SqT.of (s _ _ h)), fun p hp => q _ _ _ (Go.new s hp) (.lst upd_same (r.new s hp))⟩
  | _ => cases e
def rTupleA (K : PySem.W.Frag) : List V → Hp → VK → Prop := fun xs H Q => ∃ p ys, xs = [.ref p] ∧ ((SqL K H p ys ∧ ∀ l, H l = none → Q (.ref l) (upd H l (.tup ys))) ∨ (SqT K H p ys ∧ Q (.ref p) H))
theorem rc_tuple {K : PySem.W.Frag} : RC (rTupleA K) (c1 tupleV) := rc_one c1_one fun x z e v B H s rx Q q => by
  cases rx with
  | @lst a xs vs h r => cases e; exact ⟨a, vs, rfl, .inl ⟨SqL.of (s _ _ h), fun p hp => q _ _ _ (Go.new s hp) (.tup upd_same (r.new s hp))⟩⟩
  | @tup a xs vs h r => cases e; exact ⟨a, vs, rfl, .inr ⟨SqT.of (s _ _ h), q _ B H (Go.refl s) (.tup h r)⟩⟩
  | _ => cases e
def absU : U → Option U
  | .int i => some (.int (if i < 0 then -i else i))
  | _ => none
theorem rc_abs : RC (fun xs H Q => ∃ i, xs = [V.int i] ∧ Q (.int (if i < 0 then -i else i)) H) (c1 absU) := rc_one c1_one fun x z e v B H s rx Q q => by
  cases rx with
  | int i => cases e; exact ⟨i, rfl, q _ B H (Go.refl s) (.int _)⟩
  | _ => cases e
def intV : U → Option U
  | .int i => some (.int i)
  | .bl b => some (.int (if b then 1 else 0))
  | _ => none
theorem rc_int : RC (fun xs H Q => (∃ i, xs = [V.int i] ∧ Q (.int i) H) ∨ ∃ k, xs = [V.bl k] ∧ Q (.int (if k then 1 else 0)) H) (c1 intV) := rc_one c1_one fun x z e v B H s rx Q q => by
  cases rx with
  | int i => cases e; exact .inl ⟨i, rfl, q _ B H (Go.refl s) (.int _)⟩
  | bl b => cases e; exact .inr ⟨b, rfl, q _ B H (Go.refl s) (.int _)⟩
  | _ => cases e
/-- a call of two ints -/
def c2i (f : Int → Int → Option U) : List U → Option U
  | [.int i, .int j] => f i j
  | _ => none
theorem rc_two {f : Int → Int → Option U} {r : List V → Hp → VK → Prop}
    (h : ∀ i j z, f i j = some z → ∀ B H, Same B H → ∀ Q : VK, (∀ v2 B2 H2, Go B H B2 H2 → Rp B2 z v2 → Q v2 H2) → r [.int i, .int j] H Q) : RC r (c2i f) := fun xs z e vs B H s rs Q q => by
  unfold c2i at e
  split at e
  · rename_i i j
    cases rs with
    | cons r1 t =>
      cases t with
      | cons r2 t =>
        cases t
        cases r1
        cases r2
        exact h i j z e B H s Q q
  · cases e
def maxU : List U → Option U := c2i fun i j => some (.int (if j > i then j else i))
def minU : List U → Option U := c2i fun i j => some (.int (if j < i then j else i))
def divmodU : List U → Option U := c2i fun i j => if 0 < j ∧ j < 1073741824 then some (.tup [.int (i / j), .int (i % j)]) else none
theorem rc_max : RC (fun xs H Q => ∃ i j, xs = [V.int i, .int j] ∧ Q (.int (if j > i then j else i)) H) maxU := rc_two fun i j z e B H s Q q => by cases e; exact ⟨i, j, rfl, q _ B H (Go.refl s) (.int _)⟩
theorem rc_min : RC (fun xs H Q => ∃ i j, xs = [V.int i, .int j] ∧ Q (.int (if j < i then j else i)) H) minU := rc_two fun i j z e B H s Q q => by cases e; exact ⟨i, j, rfl, q _ B H (Go.refl s) (.int _)⟩
theorem rc_divmod : RC (fun xs H Q => ∃ i j, xs = [V.int i, .int j] ∧ CDiv i j ∧ ∀ p, H p = none → Q (.ref p) (upd H p (.tup [.int (i / j), .int (i % j)]))) divmodU := rc_two fun i j z e B H s Q q => by
  split at e
  · rename_i hj
    cases e
    exact ⟨i, j, rfl, hj, fun p hp => q _ _ _ (Go.new s hp) (.tup upd_same (.cons (.int _) (.cons (.int _) .nil)))⟩
  · cases e
end Dn
set_option Elab.async false
set_option linter.all false
set_option maxRecDepth 100000
set_option maxHeartbeats 2000000
namespace Dn
open PySem L2
variable [CTab]
/-! ### what is walked -/
structure WalkU (J : It) (xs : List U) (B2 : Hp) : Prop where
  goes : ∀ i H, i < xs.length → Same B2 H → J.go i H
  stops : ∀ H, Same B2 H → J.stop xs.length H
  yields : ∀ i H x H' B, i < xs.length → Same B2 B → Same B H → J.yld i H x H' → ∃ B' u, Go B H B' H' ∧ xs[i]? = some u ∧ Rp B' u x
def EvI (wi : TI) (σ : St) (B H : Hp) (o : Option (List U)) : Prop :=
  ∀ xs, o = some xs → ∀ B1 H1, At B B1 H1 → ∀ R : It → Hp → Prop, (∀ J B2 H2, Go B1 H1 B2 H2 → WalkU J xs B2 → R J H2) → wi σ H1 R
/-- a walk that leaves the heap as it is -/
theorem WalkU.of {J : It} {n : Nat} {G : Hp → Prop} {vs : List V} {xs : List U} {B2 : Hp} (w : Walk J n G (YAt vs)) (hn : n = xs.length) (hG : ∀ H, Same B2 H → G H) (r : Rps B2 xs vs) : WalkU J xs B2 := by
  subst hn
  refine ⟨fun i H hi s => w.goes i H hi (hG H s), fun H s => w.stops H (hG H s), fun i H x H' B hi s1 s2 y => ?_⟩
  obtain ⟨e1, e2⟩ := w.yields i H x H' hi (hG H (s1.trans s2)) y
  subst e1
  obtain ⟨u, eu, ru⟩ := r.back e2
  exact ⟨B, u, Go.refl s2, eu, ru.kp (Kp.of s1)⟩
/-- a list or a tuple -/
def iSeq (K : PySem.W.Frag) (tl : TE) : TI := fun σ H R => tl σ H fun x H1 => (∃ a, x = .ref a ∧ (∃ xs, SqL K H1 a xs) ∧ R (Itl K a) H1) ∨ (∃ a, x = .ref a ∧ (∃ xs, SqT K H1 a xs) ∧ R (Itt K a) H1)
theorem pi_seq {X : Cx} {tg l : Expr} {tl : TE} (hl : PE X l tl) : PI X tg l (iSeq X.K tl) := by
  refine ⟨fun pins s σ H R I h => ?_⟩
  refine thn (hl.run pins s σ H _ I h) fun v s1 ⟨x, H1, I1, r1, q1⟩ => ?_
  rcases q1 with ⟨a, e, ⟨xs, hq⟩, q⟩ | ⟨a, e, ⟨xs, hq⟩, q⟩
  · subst e
    cases r1
    obtain ⟨its, rv, p, hz⟩ := I1.list hq
    refine wpAny_pyIter_list p.isList ?_
    refine ⟨s1.heap.objs.size, [s1.heap.objs.size], _, _, H1, rfl, I1.kept (t' := s1.toks) fun b o e => Heap.get?_push_of_some _ e, turn_list a _, ⟨_, Heap.get?_push_size _ rfl, rfl, rfl⟩, fun b hb => ?_, q⟩
    have e : b = s1.heap.objs.size := by simpa using hb
    subst e
    exact I1.fpOk (Nat.le_refl _) (I1.hok.fresh (Nat.le_refl _))
  · subst e
    cases r1
    obtain ⟨its, rv, p, hz⟩ := I1.tuple hq
    refine wpAny_pyIter_tuple (show s1.heap.IsTuple a its.toArray from p) ?_
    refine ⟨s1.heap.objs.size, [s1.heap.objs.size], _, _, H1, rfl, I1.kept (t' := s1.toks) fun b o e => Heap.get?_push_of_some _ e, turn_tuple a _, ⟨_, Heap.get?_push_size _ rfl, rfl, rfl⟩, fun b hb => ?_, q⟩
    have e : b = s1.heap.objs.size := by simpa using hb
    subst e
    exact I1.fpOk (Nat.le_refl _) (I1.hok.fresh (Nat.le_refl _))
section
variable {σ : St} {B H : Hp} {te tl : TE} {oa : Option U} {K : PySem.W.Frag}
theorem ei_seq (h : EvO tl σ B H oa) : EvI (iSeq K tl) σ B H (oa.bind U.items) := fun xs e B1 H1 g R q => by
  obtain ⟨x, ex, e⟩ := bind_some e
  refine h x ex B1 H1 g _ fun v B2 H2 g2 r => ?_
  cases r with
  | @lst a ys vs h r =>
    cases e
    exact .inl ⟨a, rfl, ⟨vs, SqL.of (g2.bh _ _ h)⟩, q _ B2 H2 g2 (WalkU.of (walk_list (K := K) (a := a)) r.length (fun H s => SqL.of (s _ _ h)) r)⟩
  | @tup a ys vs h r =>
    cases e
    exact .inr ⟨a, rfl, ⟨vs, SqT.of (g2.bh _ _ h)⟩, q _ B2 H2 g2 (WalkU.of (walk_tup (K := K) (a := a)) r.length (fun H s => SqT.of (s _ _ h)) r)⟩
  | @frl a ys vs o h r =>
    cases e
    exact .inl ⟨a, rfl, ⟨_, .inl (.inr ⟨o, g2.bh _ _ h⟩)⟩, q _ B2 H2 g2 (WalkU.of (walk_list (K := K) (a := a)) r.length (fun H s => .inl (.inr ⟨o, s _ _ h⟩)) r)⟩
  | _ => cases e
/-- range -/
def rangeU (lo : Int) (n : Nat) : List U := (List.range n).map fun i => U.int (lo + (i : Nat))
theorem walk_rangeU {lo : Int} {n : Nat} {B2 : Hp} : WalkU (Itr lo n) (rangeU lo n) B2 := by
  have hl : (rangeU lo n).length = n := by simp [rangeU]
  refine ⟨fun i H hi _ => (walk_range (lo := lo) (n := n)).goes i H (by omega) trivial, fun H _ => by rw [hl]; exact (walk_range (lo := lo) (n := n)).stops H trivial, fun i H x H' B hi s1 s2 y => ?_⟩
  obtain ⟨e1, e2⟩ := (walk_range (lo := lo) (n := n)).yields i H x H' (by omega) trivial y
  subst e1 e2
  exact ⟨B, .int (lo + (i : Nat)), Go.refl s2, by simp [rangeU, show i < n by omega], .int _⟩
def rng1 : List U → Option (List U)
  | [.int j] => if j ≤ 100000 ∧ -100000 ≤ j then some (rangeU 0 j.toNat) else none
  | _ => none
def rng2 : List U → Option (List U)
  | [.int i, .int j] => if j ≤ 100000 ∧ -100000 ≤ j ∧ i ≤ 100000 ∧ -100000 ≤ i then some (rangeU i (j - i).toNat) else none
  | _ => none
theorem ei_rng1 {ta : TA} {ol : Option (List U)} (h : EvA ta σ B H ol) : EvI (iRng1 ta) σ B H (ol.bind rng1) := fun xs e B1 H1 g R q => by
  obtain ⟨x, ex, e⟩ := bind_some e
  unfold rng1 at e
  split at e
  · rename_i j
    split at e
    · rename_i hj
      cases e
      refine h _ ex B1 H1 g _ fun v B2 H2 g2 r => ?_
      cases r with
      | cons r1 t =>
        cases t
        cases r1
        exact ⟨j, rfl, by omega, by omega, q _ B2 H2 g2 walk_rangeU⟩
    · cases e
  · cases e
theorem ei_rng2 {ta : TA} {ol : Option (List U)} (h : EvA ta σ B H ol) : EvI (iRng2 ta) σ B H (ol.bind rng2) := fun xs e B1 H1 g R q => by
  obtain ⟨x, ex, e⟩ := bind_some e
  unfold rng2 at e
  split at e
  · rename_i i j
    split at e
    · rename_i hj
      cases e
      refine h _ ex B1 H1 g _ fun v B2 H2 g2 r => ?_
      cases r with
      | cons r1 t =>
        cases t with
        | cons r2 t =>
          cases t
          cases r1
          cases r2
          exact ⟨i, j, rfl, ⟨by omega, by omega, by omega, by omega⟩, q _ B2 H2 g2 walk_rangeU⟩
    · cases e
  · cases e
/-- a text, sign by sign -/
def signsU (z : Str) : List U := z.cps.toList.map fun c => U.str ⟨#[c]⟩
def U.signs : U → Option (List U)
  | .str z => some (signsU z)
  | _ => none
theorem ei_str (h : EvO te σ B H oa) : EvI (iStr te) σ B H (oa.bind U.signs) := fun xs e B1 H1 g R q => by
  obtain ⟨x, ex, e⟩ := bind_some e
  refine h x ex B1 H1 g _ fun v B2 H2 g2 r => ?_
  cases r with
  | str z =>
    cases e
    refine ⟨z, rfl, q _ B2 H2 g2 ?_⟩
    have hl : (signsU z).length = z.cps.size := by simp [signsU]
    refine ⟨fun i H hi _ => (walk_str (z := z)).goes i H (by omega) trivial, fun H _ => by rw [hl]; exact (walk_str (z := z)).stops H trivial, fun i H x H' B hi s1 s2 y => ?_⟩
    obtain ⟨e1, c, e2, e3⟩ := (walk_str (z := z)).yields i H x H' (by omega) trivial y
    subst e1 e3
    exact ⟨B, .str ⟨#[c]⟩, Go.refl s2, by simp [signsU, e2], .str _⟩
  | _ => cases e
/-! ### [e for x in xs if p] -/
def lcL (p : U → Option Bool) (f : U → Option U) : List U → Option (List U)
  | [] => some []
  | x :: r => (p x).bind fun b => if b = true then (f x).bind fun y => (lcL p f r).map fun z => y :: z else lcL p f r
def lcO (p : U → Option Bool) (f : U → Option U) (xs : List U) : Option U := if xs.length ≤ lim then (lcL p f xs).map U.lst else none
def yesO : U → Option Bool := fun _ => some true
theorem et_yes {σ : St} {B H : Hp} : EvT tYes σ B H (some true) := fun z e B1 H1 g Q q => by cases e; exact q B1 H1 (Go.refl g.bh)
theorem drop_at {xs : List U} {i : Nat} {u : U} (h : xs[i]? = some u) : xs.drop i = u :: xs.drop (i + 1) := by
  obtain ⟨hi, e⟩ := List.getElem?_eq_some_iff.mp h
  rw [List.drop_eq_getElem_cons hi, e]
/-- the general form: g binds, σ2 is what it leaves -/
theorem eo_lcG {wi : TI} {g : TG} {tt : TT} {te : TE} {vs : List Nat} {oxs : Option (List U)} {p : U → Option Bool} {f : U → Option U} (hi : EvI wi σ B H oxs)
    (hg : ∀ u v B1 H1 (Q : St → Hp → Prop) b, At B B1 H1 → Rp B1 u v → p u = some b → (∀ σ2, wipe σ2 vs = wipe σ vs → EvT tt σ2 B1 H1 (some b) → (b = true → EvO te σ2 B1 H1 (f u)) → Q σ2 H1) → g v (wipe σ vs) H1 Q) :
    EvO (tLc wi g tt te vs) σ B H (oxs.bind fun xs => lcO p f xs) := fun z e B0 H0 g0 Q q => by
  obtain ⟨xs, exs, e⟩ := bind_some e
  unfold lcO at e
  split at e
  · rename_i hlim
    obtain ⟨zs, ezs, e⟩ := map_some e
    subst e
    refine hi xs exs B0 H0 g0 _ fun J B2 H2 g2 w => fun D hD => ?_
    have w' : Walk J xs.length (fun H' => Same B2 H') (J.yld) := ⟨w.goes, w.stops, fun _ _ _ _ _ _ y => y⟩
    refine lc_it w' (fun i H' => ∃ Bi acc ys, Go B2 H2 Bi H' ∧ Bi D = none ∧ H' D = some (.lst acc) ∧ Rps Bi ys acc ∧ (lcL p f (xs.drop i)).map (fun r => ys ++ r) = some zs ∧ ys.length ≤ i) ?_ ?_ ?_ ?_
    · exact ⟨B2, [], [], Go.own g2.bh hD, g2.bh.free hD, upd_same, .nil, by simp [ezs], Nat.le_refl _⟩
    · rintro i H' _ ⟨Bi, _, _, gi, _⟩
      exact gi.b.trans gi.bh
    · rintro i x H' H'' hin ⟨Bi, acc, ys, gi, hBD, hHD, ra, hr, hy⟩ y
      obtain ⟨B', u, g', eu, ru⟩ := w.yields i H' x H'' Bi hin gi.b gi.bh y
      rw [drop_at eu] at hr
      obtain ⟨rr, err, hr⟩ := map_some hr
      obtain ⟨b, eb, err⟩ := bind_some err
      have gg : At B B' H'' := (g0.trans g2).trans (gi.trans g')
      refine hg u x B' H'' _ b gg ru eb fun σ2 hw ht hte => ⟨hw, ?_⟩
      refine ht b rfl B' H'' (Go.refl gg.bh) _ fun B3 H3 g3 => ?_
      have hB'D : B' D = none := g'.noB hBD hHD
      have hH''D : H'' D = some (.lst acc) := g'.h _ _ hHD
      cases b with
      | true =>
        obtain ⟨yv, ey, err⟩ := bind_some (show (f u).bind _ = _ from err)
        obtain ⟨r2, er2, err⟩ := map_some err
        subst err
        refine hte rfl yv ey B3 H3 g3 _ fun v4 B4 H4 g4 r4 => ?_
        have g34 := g3.trans g4
        have hB4 : B4 D = none := g34.noB hB'D hH''D
        have hH4 : H4 D = some (.lst acc) := g34.h _ _ hH''D
        refine ⟨acc, hH4, lim_lt (by have := ra.length; omega), B4, acc ++ [v4], ys ++ [yv], ((gi.trans g').trans g34).mut hD hB4, hB4, upd_same, (((ra.up g').up g34).append (.one r4)), ?_, ?_⟩
        · rw [er2]
          simp only [Option.map_some]
          rw [← hr]
          simp
        · rw [List.length_append, List.length_singleton]; omega
      | false =>
        have hB3 : B3 D = none := g3.noB hB'D hH''D
        have hH3 : H3 D = some (.lst acc) := g3.h _ _ hH''D
        refine ⟨B3, acc, ys, (gi.trans g').trans g3, hB3, hH3, (ra.up g').up g3, ?_, by omega⟩
        have err : lcL p f (xs.drop (i + 1)) = some rr := err
        rw [err]
        exact congrArg some hr
    · rintro H' ⟨Bi, acc, ys, gi, hBD, hHD, ra, hr, _⟩
      rw [List.drop_length] at hr
      have e1 : ys = zs := by simpa [lcL] using hr
      subst e1
      exact q _ (upd Bi D (.lst acc)) H' (g2.trans (gi.keep hD hBD hHD)) (.lst upd_same (ra.kp (Kp.of fun b o e => by rw [upd_ne (ne_of_none e hBD)]; exact e)))
  · cases e
/-- one name -/
theorem eo_lc {wi : TI} {tt : TT} {te : TE} {vs : List Nat} {j : Nat} {oxs : Option (List U)} {p : U → Option Bool} {f : U → Option U} (hi : EvI wi σ B H oxs) (hw : ∀ x, wipe ((wipe σ vs).set j (some x)) vs = wipe σ vs)
    (hp : ∀ u v B1 H1, At B B1 H1 → Rp B1 u v → EvT tt ((wipe σ vs).set j (some v)) B1 H1 (p u)) (hf : ∀ u v B1 H1, At B B1 H1 → Rp B1 u v → EvO te ((wipe σ vs).set j (some v)) B1 H1 (f u)) :
    EvO (tLc wi (gName j) tt te vs) σ B H (oxs.bind fun xs => lcO p f xs) :=
  eo_lcG hi fun u v B1 H1 Q b g r eb k => k _ (hw v) (by rw [← eb]; exact hp u v B1 H1 g r) fun _ => hf u v B1 H1 g r
/-- two names -/
def unp2 : U → Option (U × U)
  | .tup [a, b] => some (a, b)
  | _ => none
theorem unp2_tup {u : U} {a b : U} (h : unp2 u = some (a, b)) : u = .tup [a, b] := by
  unfold unp2 at h
  split at h
  · cases h; rfl
  · cases h
theorem g_two {i j : Nat} {u a b : U} {v : V} {B1 H1 : Hp} {σ : St} {Q : St → Hp → Prop} (s : Same B1 H1) (r : Rp B1 u v) (h : unp2 u = some (a, b)) (k : ∀ x y, Rp B1 a x → Rp B1 b y → Q ((σ.set i (some x)).set j (some y)) H1) :
    gTup K 2 (gCons (gName i) (gCons (gName j) gNil)) v σ H1 Q := by
  have e := unp2_tup h
  subst e
  cases r with
  | @tup ad _ vs e r =>
    cases r with
    | cons r1 t =>
      cases t with
      | cons r2 t =>
        cases t
        exact ⟨ad, _, rfl, SqT.of (s _ _ e), rfl, _, _, rfl, _, _, rfl, rfl, k _ _ r1 r2⟩
theorem eo_lc2n {wi : TI} {tt : TT} {te : TE} {vs : List Nat} {j1 j2 : Nat} {oxs : Option (List U)} {p : U → U → Option Bool} {f : U → U → Option U} (hi : EvI wi σ B H oxs) (hw : ∀ x y, wipe (((wipe σ vs).set j1 (some x)).set j2 (some y)) vs = wipe σ vs)
    (hp : ∀ a b v w B1 H1, At B B1 H1 → Rp B1 a v → Rp B1 b w → EvT tt (((wipe σ vs).set j1 (some v)).set j2 (some w)) B1 H1 (p a b)) (hf : ∀ a b v w B1 H1, At B B1 H1 → Rp B1 a v → Rp B1 b w → EvO te (((wipe σ vs).set j1 (some v)).set j2 (some w)) B1 H1 (f a b)) :
    EvO (tLc wi (gTup K 2 (gCons (gName j1) (gCons (gName j2) gNil))) tt te vs) σ B H (oxs.bind fun xs => lcO (fun u => (unp2 u).bind fun ab => p ab.1 ab.2) (fun u => (unp2 u).bind fun ab => f ab.1 ab.2) xs) :=
  eo_lcG hi fun u v B1 H1 Q b g r eb k => by
    obtain ⟨⟨x, y⟩, eu, eb⟩ := bind_some eb
    refine g_two g.bh r eu fun a' b' ra rb => k _ (hw a' b') (by rw [← eb]; exact hp x y a' b' B1 H1 g ra rb) fun _ => ?_
    rw [eu]
    exact hf x y a' b' B1 H1 g ra rb
end
end Dn
set_option Elab.async false
set_option linter.all false
set_option maxRecDepth 100000
set_option maxHeartbeats 2000000
namespace Dn
open PySem L2
variable [CTab]
/-! ### two clauses -/
def lc2L (p : U → Option Bool) (ys : U → Option (List U)) (p1 : U → U → Option Bool) (f : U → U → Option U) : List U → Option (List U)
  | [] => some []
  | x :: r => (p x).bind fun b => if b = true then (ys x).bind fun l => if l.length ≤ lim then (lcL (p1 x) (f x) l).bind fun a => (lc2L p ys p1 f r).map fun z => a ++ z else none else lc2L p ys p1 f r
def lc2O (p : U → Option Bool) (ys : U → Option (List U)) (p1 : U → U → Option Bool) (f : U → U → Option U) (xs : List U) : Option U := (lc2L p ys p1 f xs).bind fun zs => if zs.length ≤ lim then some (.lst zs) else none
section
variable {σ : St} {B H : Hp} {K : PySem.W.Frag}
theorem eo_lc2G {wi wi1 : TI} {g g1 : TG} {tt tt1 : TT} {te : TE} {vs vs1 : List Nat} {oxs : Option (List U)} {p : U → Option Bool} {ys : U → Option (List U)} {p1 : U → U → Option Bool} {f : U → U → Option U} (hi : EvI wi σ B H oxs)
    (hg : ∀ u v B1 H1 (Q : St → Hp → Prop) b, At B B1 H1 → Rp B1 u v → p u = some b → (∀ σ2, wipe σ2 vs = wipe σ vs → EvT tt σ2 B1 H1 (some b) → (b = true → EvI wi1 σ2 B1 H1 (ys u) ∧
      ∀ u' v' B2 H2 (Q' : St → Hp → Prop) b', At B1 B2 H2 → Rp B2 u' v' → p1 u u' = some b' → (∀ σ3, wipe σ3 vs1 = wipe σ2 vs1 → EvT tt1 σ3 B2 H2 (some b') → (b' = true → EvO te σ3 B2 H2 (f u u')) → Q' σ3 H2) → g1 v' (wipe σ2 vs1) H2 Q') → Q σ2 H1) → g v (wipe σ vs) H1 Q) :
    EvO (tLc2 wi g tt wi1 g1 tt1 te vs vs1) σ B H (oxs.bind fun xs => lc2O p ys p1 f xs) := fun z e B0 H0 g0 Q q => by
  obtain ⟨xs, exs, e⟩ := bind_some e
  obtain ⟨zs, ezs, e⟩ := bind_some e
  split at e
  · rename_i hzs
    cases e
    refine hi xs exs B0 H0 g0 _ fun J B2 H2 g2 w => fun D hD => ?_
    let Pv : Nat → Hp → Prop := fun i H' => ∃ Bi acc as, Go B2 H2 Bi H' ∧ Bi D = none ∧ H' D = some (.lst acc) ∧ Rps Bi as acc ∧ (lc2L p ys p1 f (xs.drop i)).map (fun r => as ++ r) = some zs
    refine ⟨fun i m H' => m = xs.length - i ∧ i ≤ xs.length ∧ Pv i H', ⟨xs.length, by simp, Nat.zero_le _, B2, [], [], Go.own g2.bh hD, g2.bh.free hD, upd_same, .nil, by simp [ezs]⟩, ?_⟩
    rintro i m H' ⟨rfl, hin, Bi, acc, as, gi, hBD, hHD, ra, hr⟩
    have sB : Same B2 H' := gi.b.trans gi.bh
    by_cases hlt : i < xs.length
    · refine .inr ⟨w.goes i H' hlt sB, Pv (i + 1), fun H'' p' => ⟨xs.length - (i + 1), by omega, rfl, hlt, p'⟩, fun x H'' y => ?_⟩
      obtain ⟨B', u, g', eu, ru⟩ := w.yields i H' x H'' Bi hlt gi.b gi.bh y
      rw [drop_at eu] at hr
      obtain ⟨rr, err, hr⟩ := map_some hr
      obtain ⟨b, eb, err⟩ := bind_some err
      have gg : At B B' H'' := (g0.trans g2).trans (gi.trans g')
      refine hg u x B' H'' _ b gg ru eb fun σ2 hw ht hte => ⟨hw, ?_⟩
      refine ht b rfl B' H'' (Go.refl gg.bh) _ fun B3 H3 g3 => ?_
      have hB'D : B' D = none := g'.noB hBD hHD
      have hH''D : H'' D = some (.lst acc) := g'.h _ _ hHD
      cases b with
      | false =>
        have hB3 : B3 D = none := g3.noB hB'D hH''D
        have hH3 : H3 D = some (.lst acc) := g3.h _ _ hH''D
        refine ⟨B3, acc, as, (gi.trans g').trans g3, hB3, hH3, (ra.up g').up g3, ?_⟩
        have err : lc2L p ys p1 f (xs.drop (i + 1)) = some rr := err
        rw [err]
        exact congrArg some hr
      | true =>
        obtain ⟨hI, hG1⟩ := hte rfl
        obtain ⟨l, el, err⟩ := bind_some (show (ys u).bind _ = _ from err)
        split at err
        · rename_i hl
          obtain ⟨a1, ea1, err⟩ := bind_some err
          obtain ⟨r2, er2, err⟩ := map_some err
          subst err
          refine hI l el B3 H3 g3 _ fun J1 B4 H4 g4 w1 => ?_
          have g34 : Go B' H'' B4 H4 := g3.trans g4
          have hB4D : B4 D = none := g34.noB hB'D hH''D
          have hH4D : H4 D = some (.lst acc) := g34.h _ _ hH''D
          have hrl : as.length + a1.length ≤ lim := by
            have e1 : zs = as ++ (a1 ++ r2) := hr.symm
            rw [e1] at hzs
            simp only [List.length_append] at hzs
            omega
          let Pw : Nat → Hp → Prop := fun j Hj => ∃ Bj accj bs, Go B4 H2 Bj Hj ∧ Bj D = none ∧ Hj D = some (.lst accj) ∧ Rps Bj (as ++ bs) accj ∧ (lcL (p1 u) (f u) (l.drop j)).map (fun r => bs ++ r) = some a1
          -- the position: B4 over H2, D is one's own
          have gB : Go B4 H2 B4 H4 := ⟨(gi.trans g').h.trans g34.h, Same.refl _, g34.bh, fun a o e => .inl e⟩
          refine ⟨fun j k Hj => k = l.length - j ∧ j ≤ l.length ∧ Pw j Hj ∧ True, ⟨l.length, by simp, Nat.zero_le _, ⟨B4, acc, [], gB, hB4D, hH4D, by simpa using (ra.up g').up g34, by simp [ea1]⟩, trivial⟩, ?_⟩
          rintro j k Hj ⟨rfl, hjn, ⟨Bj, accj, bs, gj, hBjD, hHjD, raj, hrj⟩, _⟩
          have sBj : Same B4 Hj := gj.b.trans gj.bh
          by_cases hjlt : j < l.length
          · refine .inr ⟨w1.goes j Hj hjlt sBj, Pw (j + 1), fun Hk p' => ⟨l.length - (j + 1), by omega, rfl, hjlt, p', trivial⟩, fun x1 Hk y1 => ?_⟩
            obtain ⟨Bk, u1, gk, eu1, ru1⟩ := w1.yields j Hj x1 Hk Bj hjlt gj.b gj.bh y1
            rw [drop_at eu1] at hrj
            obtain ⟨rj, erj, hrj⟩ := map_some hrj
            obtain ⟨b1, eb1, erj⟩ := bind_some erj
            have hBkD : Bk D = none := gk.noB hBjD hHjD
            have hHkD : Hk D = some (.lst accj) := gk.h _ _ hHjD
            have gBk : At B' Bk Hk := ⟨g34.b.trans (gj.b.trans gk.b), gk.bh⟩
            refine hG1 u1 x1 Bk Hk _ b1 gBk ru1 eb1 fun σ3 hw3 ht3 hte3 => ⟨hw3, ?_⟩
            refine ht3 b1 rfl Bk Hk (Go.refl gBk.bh) _ fun B5 H5 g5 => ?_
            have gj5 : Go B4 H2 B5 H5 := (gj.trans gk).trans g5
            have raj5 := (raj.up gk).up g5
            cases b1 with
            | true =>
              obtain ⟨yv, ey, erj⟩ := bind_some (show (f u u1).bind _ = _ from erj)
              obtain ⟨r3, er3, erj⟩ := map_some erj
              subst erj
              refine hte3 rfl yv ey B5 H5 g5 _ fun v6 B6 H6 g6 r6 => ?_
              have hB6 : B6 D = none := (g5.trans g6).noB hBkD hHkD
              have hH6 : H6 D = some (.lst accj) := (g5.trans g6).h _ _ hHkD
              refine ⟨accj, hH6, lim_lt ?_, B6, accj ++ [v6], bs ++ [yv], (gj5.trans g6).mut hD hB6, hB6, upd_same, ?_, ?_⟩
              · have e1 := raj.length
                have e2 : a1 = bs ++ (yv :: r3) := hrj.symm
                rw [e2] at hrl
                simp only [List.length_append, List.length_cons] at hrl e1
                omega
              · rw [← List.append_assoc]
                exact (raj5.up g6).append (.one r6)
              · rw [er3, ← hrj]
                simp
            | false =>
              have hB5 : B5 D = none := g5.noB hBkD hHkD
              have hH5 : H5 D = some (.lst accj) := g5.h _ _ hHkD
              refine ⟨B5, accj, bs, gj5, hB5, hH5, raj5, ?_⟩
              have erj : lcL (p1 u) (f u) (l.drop (j + 1)) = some rj := erj
              rw [erj]
              exact congrArg some hrj
          · have e1 : j = l.length := by omega
            subst e1
            rw [List.drop_length] at hrj
            have e1 : bs = a1 := by simpa [lcL] using hrj
            subst e1
            have g24 : Go B2 H2 B4 H4 := (gi.trans g').trans g34
            refine .inl ⟨w1.stops Hj sBj, Bj, accj, as ++ bs, ⟨gj.h, g24.b.trans gj.b, gj.bh, fun a o e => ?_⟩, hBjD, hHjD, raj, ?_⟩
            · rcases gj.fr a o e with e | e
              · exact g24.fr a o e
              · exact .inr e
            · rw [er2]
              rw [← hr]
              simp
        · cases err
    · have e1 : i = xs.length := by omega
      subst e1
      rw [List.drop_length] at hr
      have e1 : as = zs := by simpa [lc2L] using hr
      subst e1
      exact .inl ⟨w.stops H' sB, q _ (upd Bi D (.lst acc)) H' (g2.trans (gi.keep hD hBD hHD)) (.lst upd_same (ra.kp (Kp.of fun b o e => by rw [upd_ne (ne_of_none e hBD)]; exact e)))⟩
  · cases e
/-- one name each -/
theorem eo_lc2 {wi wi1 : TI} {tt tt1 : TT} {te : TE} {vs vs1 : List Nat} {j j1 : Nat} {oxs : Option (List U)} {p : U → Option Bool} {ys : U → Option (List U)} {p1 : U → U → Option Bool} {f : U → U → Option U} (hi : EvI wi σ B H oxs)
    (hw : ∀ x, wipe ((wipe σ vs).set j (some x)) vs = wipe σ vs) (hw1 : ∀ x y, wipe ((wipe ((wipe σ vs).set j (some x)) vs1).set j1 (some y)) vs1 = wipe ((wipe σ vs).set j (some x)) vs1)
    (hp : ∀ u v B1 H1, At B B1 H1 → Rp B1 u v → EvT tt ((wipe σ vs).set j (some v)) B1 H1 (p u)) (hy : ∀ u v B1 H1, At B B1 H1 → Rp B1 u v → EvI wi1 ((wipe σ vs).set j (some v)) B1 H1 (ys u))
    (hp1 : ∀ u v u' v' B1 H1, At B B1 H1 → Rp B1 u v → Rp B1 u' v' → EvT tt1 ((wipe ((wipe σ vs).set j (some v)) vs1).set j1 (some v')) B1 H1 (p1 u u'))
    (hf : ∀ u v u' v' B1 H1, At B B1 H1 → Rp B1 u v → Rp B1 u' v' → EvO te ((wipe ((wipe σ vs).set j (some v)) vs1).set j1 (some v')) B1 H1 (f u u')) :
    EvO (tLc2 wi (gName j) tt wi1 (gName j1) tt1 te vs vs1) σ B H (oxs.bind fun xs => lc2O p ys p1 f xs) :=
  eo_lc2G hi fun u v B1 H1 Q b g r eb k => k _ (hw v) (by rw [← eb]; exact hp u v B1 H1 g r) fun _ => ⟨hy u v B1 H1 g r, fun u' v' B2 H2 Q' b' g' r' eb' k' => by
    have gg : At B B2 H2 := g.tr g'
    exact k' _ (hw1 v v') (by rw [← eb']; exact hp1 u v u' v' B2 H2 gg (r.upA g') r') fun _ => hf u v u' v' B2 H2 gg (r.upA g') r'⟩
end
/-! ### statements -/
section
variable {σ : St} {B H B0 H0 : Hp} {K : PySem.W.Frag} {te tb : TE} {t : TT} {tu tw tz : TS} {D : Ends} {o : Option U} {r : U}
theorem q_ret (h : EvO te σ B H o) (e : o = some r) (g : Go B0 H0 B H) (k : ∀ v B2 H2, Go B0 H0 B2 H2 → Rp B2 r v → D.rt v H2) : tSeq (tRet te) tz D σ H :=
  h r e B H (Go.refl g.bh) _ fun v B2 H2 g2 r2 => k v B2 H2 (g.trans g2) r2
theorem q_asg {α : Type} {i : Nat} {f : U → Option α} {m : α} (s : Same B H) (h : EvO te σ B H o) (e : o.bind f = some m) (k : ∀ x v B1 H1, Go B H B1 H1 → Rp B1 x v → f x = some m → tz D (σ.set i (some v)) H1) : tSeq (tAsg te (gName i)) tz D σ H := by
  obtain ⟨x, ex, e⟩ := bind_some e
  exact h x ex B H (Go.refl s) _ fun v B2 H2 g2 r2 => k x v B2 H2 g2 r2 e
theorem q_expr {α : Type} {f : U → Option α} {m : α} (s : Same B H) (h : EvO te σ B H o) (e : o.bind f = some m) (k : ∀ x v B1 H1, Go B H B1 H1 → Rp B1 x v → f x = some m → tz D σ H1) : tSeq (tDrop te) tz D σ H := by
  obtain ⟨x, ex, e⟩ := bind_some e
  exact h x ex B H (Go.refl s) _ fun v B2 H2 g2 r2 => k x v B2 H2 g2 r2 e
theorem q_two {α : Type} {i j : Nat} {f : U × U → Option α} {m : α} (s : Same B H) (h : EvO te σ B H o) (e : (o.bind unp2).bind f = some m) (k : ∀ x y v w B1 H1, Go B H B1 H1 → Rp B1 x v → Rp B1 y w → f (x, y) = some m → tz D ((σ.set i (some v)).set j (some w)) H1) :
    tSeq (tAsg te (gTup K 2 (gCons (gName i) (gCons (gName j) gNil)))) tz D σ H := by
  obtain ⟨⟨x, y⟩, exy, e⟩ := bind_some e
  obtain ⟨u, eu, exy⟩ := bind_some exy
  exact h u eu B H (Go.refl s) _ fun v B2 H2 g2 r2 => g_two g2.bh r2 exy fun a b ra rb => k x y a b B2 H2 g2 ra rb e
theorem q_par {α : Type} {i j : Nat} {ta : TA} {ol : Option (List U)} {f : List U → Option α} {m : α} (s : Same B H) (h : EvA ta σ B H ol) (hn : ∀ xs, ol = some xs → ∃ x y, xs = [x, y]) (e : ol.bind f = some m)
    (k : ∀ x y v w B1 H1, Go B H B1 H1 → Rp B1 x v → Rp B1 y w → f [x, y] = some m → tz D ((σ.set i (some v)).set j (some w)) H1) : tSeq (tPar i j ta) tz D σ H := by
  obtain ⟨xs, exs, e⟩ := bind_some e
  obtain ⟨x, y, rfl⟩ := hn xs exs
  refine h _ exs B H (Go.refl s) _ fun vs B2 H2 g2 r2 => ?_
  cases r2 with
  | cons r1 t =>
    cases t with
    | cons r2 t =>
      cases t
      exact ⟨_, _, rfl, k x y _ _ B2 H2 g2 r1 r2 e⟩
theorem q_if {α : Type} {c : Option Bool} {m1 m2 : Option α} {m : α} (s : Same B H) (h : EvT t σ B H c) (e : ifO c m1 m2 = some m) (h1 : c = some true → m1 = some m → ∀ B1 H1, Go B H B1 H1 → tu { D with nx := tz D } σ H1) (h2 : c = some false → m2 = some m → ∀ B1 H1, Go B H B1 H1 → tw { D with nx := tz D } σ H1) : tSeq (tIfS t tu tw) tz D σ H := by
  obtain ⟨x, ex, e⟩ := bind_some e
  refine h x ex B H (Go.refl s) _ fun B2 H2 g2 => ?_
  cases x with
  | true => exact h1 ex e B2 H2 g2
  | false => exact h2 ex e B2 H2 g2
theorem q_for {wi : TI} {g : TG} {oxs : Option (List U)} {xs : List U} (s : Same B H) (hi : EvI wi σ B H oxs) (exs : oxs = some xs)
    (k : ∀ B2 H2, Go B H B2 H2 → ∃ R : List U → St → Hp → Hp → Prop, R xs σ B2 H2 ∧ (∀ l σ' B' H', R l σ' B' H' → Same B2 B' ∧ Same B' H') ∧
      (∀ u l v σ' B' H' B'' H'', R (u :: l) σ' B' H' → Go B' H' B'' H'' → Rp B'' u v → g v σ' H'' fun σ2 H3 => tu { D with nx := fun σ3 H4 => ∃ B4, R l σ3 B4 H4, ct := fun σ3 H4 => ∃ B4, R l σ3 B4 H4, bk := tz D } σ2 H3) ∧
      (∀ σ' B' H', R [] σ' B' H' → tz D σ' H')) : tSeq (tFor wi g tu) tz D σ H := by
  refine hi xs exs B H (Go.refl s) _ fun J B2 H2 g2 w => ?_
  obtain ⟨R, r0, rs, rt, rd⟩ := k B2 H2 g2
  have w' : Walk J xs.length (fun H' => Same B2 H') (J.yld) := ⟨w.goes, w.stops, fun _ _ _ _ _ _ y => y⟩
  refine for_it (D := { D with nx := tz D }) w' (fun i σ' H' => ∃ B', R (xs.drop i) σ' B' H') ⟨B2, r0⟩ (fun i σ' H' _ ⟨B', r⟩ => (rs _ _ _ _ r).1.trans (rs _ _ _ _ r).2) ?_ ?_
  · rintro i x σ' H' H'' hin ⟨B', r⟩ y
    obtain ⟨s1, s2⟩ := rs _ _ _ _ r
    obtain ⟨B'', u, g', eu, ru⟩ := w.yields i H' x H'' B' hin s1 s2 y
    rw [drop_at eu] at r
    exact rt u _ x σ' B' H' B'' H'' r g' ru
  · rintro σ' H' ⟨B', r⟩
    rw [List.drop_length] at r
    exact rd σ' B' H' r
end
/-! ### a def's arguments -/
def a0 (f : Option U) : List U → Option U
  | [] => f
  | _ => none
def a1 (f : U → Option U) : List U → Option U
  | [x] => f x
  | _ => none
def a2 (f : U → U → Option U) : List U → Option U
  | [x, y] => f x y
  | _ => none
def a3 (f : U → U → U → Option U) : List U → Option U
  | [x, y, z] => f x y z
  | _ => none
def a4 (f : U → U → U → U → Option U) : List U → Option U
  | [x, y, z, w] => f x y z w
  | _ => none
def a5 (f : U → U → U → U → U → Option U) : List U → Option U
  | [x, y, z, w, q] => f x y z w q
  | _ => none
section
variable {vs : List V} {H : Hp} {Q : VK} {E : XK}
theorem sp0 {f : Option U} (h : spU (a0 f) vs H Q E) : ∃ B r, vs = [] ∧ Same B H ∧ f = some r ∧ ∀ v B2 H2, Go B H B2 H2 → Rp B2 r v → Q v H2 := by
  obtain ⟨B, xs, r, s, rs, e, k⟩ := h
  match xs, rs, e with
  | [], .nil, e => exact ⟨B, r, rfl, s, e, k⟩
theorem sp1 {f : U → Option U} (h : spU (a1 f) vs H Q E) : ∃ B x v r, vs = [v] ∧ Same B H ∧ Rp B x v ∧ f x = some r ∧ ∀ v B2 H2, Go B H B2 H2 → Rp B2 r v → Q v H2 := by
  obtain ⟨B, xs, r, s, rs, e, k⟩ := h
  match xs, rs, e with
  | [x], .cons r1 .nil, e => exact ⟨B, x, _, r, rfl, s, r1, e, k⟩
theorem sp2 {f : U → U → Option U} (h : spU (a2 f) vs H Q E) : ∃ B x y v w r, vs = [v, w] ∧ Same B H ∧ Rp B x v ∧ Rp B y w ∧ f x y = some r ∧ ∀ v B2 H2, Go B H B2 H2 → Rp B2 r v → Q v H2 := by
  obtain ⟨B, xs, r, s, rs, e, k⟩ := h
  match xs, rs, e with
  | [x, y], .cons r1 (.cons r2 .nil), e => exact ⟨B, x, y, _, _, r, rfl, s, r1, r2, e, k⟩
theorem sp3 {f : U → U → U → Option U} (h : spU (a3 f) vs H Q E) : ∃ B x y z v w u r, vs = [v, w, u] ∧ Same B H ∧ Rp B x v ∧ Rp B y w ∧ Rp B z u ∧ f x y z = some r ∧ ∀ v B2 H2, Go B H B2 H2 → Rp B2 r v → Q v H2 := by
  obtain ⟨B, xs, r, s, rs, e, k⟩ := h
  match xs, rs, e with
  | [x, y, z], .cons r1 (.cons r2 (.cons r3 .nil)), e => exact ⟨B, x, y, z, _, _, _, r, rfl, s, r1, r2, r3, e, k⟩
theorem sp4 {f : U → U → U → U → Option U} (h : spU (a4 f) vs H Q E) : ∃ B x y z t v w u q r, vs = [v, w, u, q] ∧ Same B H ∧ Rp B x v ∧ Rp B y w ∧ Rp B z u ∧ Rp B t q ∧ f x y z t = some r ∧ ∀ v B2 H2, Go B H B2 H2 → Rp B2 r v → Q v H2 := by
  obtain ⟨B, xs, r, s, rs, e, k⟩ := h
  match xs, rs, e with
  | [x, y, z, t], .cons r1 (.cons r2 (.cons r3 (.cons r4 .nil))), e => exact ⟨B, x, y, z, t, _, _, _, _, r, rfl, s, r1, r2, r3, r4, e, k⟩
end
end Dn
set_option Elab.async false
set_option linter.all false
set_option maxRecDepth 100000
set_option maxHeartbeats 2000000
namespace Dn
open PySem L2
variable [CTab]
/-! ### short forms -/
def op2 (f : U → U → Option U) (a b : Option U) : Option U := a.bind fun x => b.bind fun y => f x y
def op1 (f : U → Option U) (a : Option U) : Option U := a.bind f
def isO (f : U → Option Bool) (a : Option U) : Option U := a.bind fun x => (f x).map U.bl
def slO (a : Option U) (l h : Option (Option Int)) : Option U := a.bind fun x => l.bind fun lo => h.bind fun hi => sliceV x lo hi
def ptO (a : Option U) : Option (Option Int) := (a.bind U.asI).map some
def testO (a : Option U) : Option Bool := a.bind U.asB
def callO (m : List U → Option U) (a : Option (List U)) : Option U := a.bind m
def iterO (f : U → Option (List U)) (a : Option U) : Option (List U) := a.bind f
def rngO (f : List U → Option (List U)) (a : Option (List U)) : Option (List U) := a.bind f
def compO (p : U → Option Bool) (f : U → Option U) (xs : Option (List U)) : Option U := xs.bind fun l => lcO p f l
def compO2 (p : U → U → Option Bool) (f : U → U → Option U) (xs : Option (List U)) : Option U := xs.bind fun l => lcO (fun u => (unp2 u).bind fun ab => p ab.1 ab.2) (fun u => (unp2 u).bind fun ab => f ab.1 ab.2) l
def compOO (p : U → Option Bool) (ys : U → Option (List U)) (p1 : U → U → Option Bool) (f : U → U → Option U) (xs : Option (List U)) : Option U := xs.bind fun l => lc2O p ys p1 f l
/-- a < b <= c -/
def chainO (f f' : U → U → Option U) (a b c : Option U) : Option U := a.bind fun x => b.bind fun y => (f x y).bind fun z => z.asB.bind fun k => if k = true then c.bind fun w => f' y w else some (.bl false)
section
variable {σ : St} {B H B1 H1 : Hp} {ta tb te tc : TE} {t u : TT} {oa ob oc : Option U} {K : PySem.W.Frag}
theorem eo_op2 {r : R2} {f : U → U → Option U} (hr : RV r f) (ha : EvO ta σ B H oa) (hb : EvO tb σ B H ob) : EvO (tOp r ta tb) σ B H (op2 f oa ob) := eo_op ha hb hr
theorem eo_op1 {r : V → Hp → VK → Prop} {f : U → Option U} (hr : RU r f) (ha : EvO ta σ B H oa) : EvO (tUn r ta) σ B H (op1 f oa) := eo_un ha hr
theorem eo_cb' {r : List V → Hp → VK → Prop} {f : List U → Option U} {tl : TA} {ol : Option (List U)} (hr : RC r f) (ha : EvA tl σ B H ol) : EvO (tCB r tl) σ B H (callO f ol) := eo_cb ha hr
theorem eo_chain {r r' : R2} {f f' : U → U → Option U} (hr : RV r f) (hr' : RV r' f') (ha : EvO ta σ B H oa) (hb : EvO tb σ B H ob) (hc : EvO tc σ B H oc) : EvO (tChain r r' ta tb tc) σ B H (chainO f f' oa ob oc) := fun z e B1 H1 g Q q => by
  obtain ⟨x, ex, e⟩ := bind_some e
  obtain ⟨y, ey, e⟩ := bind_some e
  obtain ⟨z1, ez, e⟩ := bind_some e
  obtain ⟨k, ek, e⟩ := bind_some e
  refine ha x ex B1 H1 g _ fun v B2 H2 g2 r2 => hb y ey B2 H2 (g.trans g2) _ fun w B3 H3 g3 r3 => hr x y z1 ez v w B3 H3 g3.bh (r2.up g3) r3 _ fun v2 B4 H4 g4 r4 => ?_
  cases z1 <;> cases ek
  cases r4
  refine ⟨k, rfl, ?_⟩
  cases k with
  | true =>
    obtain ⟨w1, ew, e⟩ := bind_some (show oc.bind _ = _ from e)
    exact hc w1 ew B4 H4 (((g.trans g2).trans g3).trans g4) _ fun v5 B5 H5 g5 r5 => hr' y w1 z e w v5 B5 H5 g5.bh ((r3.up g4).up g5) r5 Q fun v6 B6 H6 g6 r6 => q v6 B6 H6 ((((g2.trans g3).trans g4).trans g5).trans g6) r6
  | false =>
    cases e
    exact q _ B4 H4 ((g2.trans g3).trans g4) (.bl false)
end
theorem Rp.sm {B B' : Hp} {u : U} {v : V} (r : Rp B u v) (s : Same B B') : Rp B' u v := r.kp (Kp.of s)
section
variable {σ : St} {B H B0 H0 : Hp} {K : PySem.W.Frag} {te tb : TE} {t : TT} {tu tw tz : TS} {D : Ends} {o : Option U} {r : U}
theorem g_twoM {α : Type} {i j : Nat} {u : U} {v : V} {B1 H1 : Hp} {σ : St} {Q : St → Hp → Prop} {F : U × U → Option α} {m : α} (s : Same B1 H1) (r : Rp B1 u v) (e : (unp2 u).bind F = some m) (k : ∀ a b x y, Rp B1 a x → Rp B1 b y → F (a, b) = some m → Q ((σ.set i (some x)).set j (some y)) H1) :
    gTup K 2 (gCons (gName i) (gCons (gName j) gNil)) v σ H1 Q := by
  obtain ⟨⟨a, b⟩, eu, e⟩ := bind_some e
  exact g_two s r eu fun x y ra rb => k a b x y ra rb e
theorem q_forM {α : Type} {wi : TI} {g : TG} {oxs : Option (List U)} {F : List U → Option α} {m : α} (s : Same B H) (hi : EvI wi σ B H oxs) (e : oxs.bind F = some m)
    (k : ∀ xs B2 H2, F xs = some m → Go B H B2 H2 → ∃ R : List U → St → Hp → Hp → Prop, R xs σ B2 H2 ∧ (∀ l σ' B' H', R l σ' B' H' → Same B2 B' ∧ Same B' H') ∧
      (∀ u l v σ' B' H' B'' H'', R (u :: l) σ' B' H' → Go B' H' B'' H'' → Rp B'' u v → g v σ' H'' fun σ2 H3 => tu { D with nx := fun σ3 H4 => ∃ B4, R l σ3 B4 H4, ct := fun σ3 H4 => ∃ B4, R l σ3 B4 H4, bk := tz D } σ2 H3) ∧
      (∀ σ' B' H', R [] σ' B' H' → tz D σ' H')) : tSeq (tFor wi g tu) tz D σ H := by
  obtain ⟨xs, exs, e⟩ := bind_some e
  exact q_for s hi exs fun B2 H2 g2 => k xs B2 H2 e g2
end
end Dn
set_option Elab.async false
set_option linter.all false
set_option maxRecDepth 100000
set_option maxHeartbeats 2000000
namespace Dn
open PySem L2
variable [CTab]
def par2 {α : Type} (ol : Option (List U)) (f : U → U → Option α) : Option α := ol.bind fun xs => match xs with
  | [x, y] => f x y
  | _ => none
def two2 {α : Type} (o : Option U) (f : U → U → Option α) : Option α := (o.bind unp2).bind fun ab => f ab.1 ab.2
def unp2F {α : Type} (u : U) (f : U → U → Option α) : Option α := (unp2 u).bind fun ab => f ab.1 ab.2
section
variable {σ : St} {B H B0 H0 : Hp} {K : PySem.W.Frag} {te tb : TE} {t : TT} {tu tw tz : TS} {D : Ends} {o : Option U} {r : U}
theorem fall_end (g : Go B0 H0 B H) {σ : St} {Q : VK} (e : some U.non = some r) (k : ∀ v B2 H2, Go B0 H0 B2 H2 → Rp B2 r v → Q v H2) : Q .non H := by
  cases e
  exact k _ B H g .non
theorem q_par2 {α : Type} {i j : Nat} {ta : TA} {ol : Option (List U)} {f : U → U → Option α} {m : α} (s : Same B H) (h : EvA ta σ B H ol) (e : par2 ol f = some m)
    (k : ∀ x y v w B1 H1, Go B H B1 H1 → Rp B1 x v → Rp B1 y w → f x y = some m → tz D ((σ.set i (some v)).set j (some w)) H1) : tSeq (tPar i j ta) tz D σ H := by
  obtain ⟨xs, exs, e⟩ := bind_some e
  match xs, exs, e with
  | [x, y], exs, e =>
    refine h _ exs B H (Go.refl s) _ fun vs B2 H2 g2 r2 => ?_
    cases r2 with
    | cons r1 t =>
      cases t with
      | cons r2 t =>
        cases t
        exact ⟨_, _, rfl, k x y _ _ B2 H2 g2 r1 r2 e⟩
theorem q_two2 {α : Type} {i j : Nat} {f : U → U → Option α} {m : α} (s : Same B H) (h : EvO te σ B H o) (e : two2 o f = some m) (k : ∀ x y v w B1 H1, Go B H B1 H1 → Rp B1 x v → Rp B1 y w → f x y = some m → tz D ((σ.set i (some v)).set j (some w)) H1) :
    tSeq (tAsg te (gTup K 2 (gCons (gName i) (gCons (gName j) gNil)))) tz D σ H := q_two s h e k
theorem g_two2 {α : Type} {i j : Nat} {u : U} {v : V} {B1 H1 : Hp} {σ : St} {Q : St → Hp → Prop} {F : U → U → Option α} {m : α} (s : Same B1 H1) (r : Rp B1 u v) (e : unp2F u F = some m) (k : ∀ a b x y, Rp B1 a x → Rp B1 b y → F a b = some m → Q ((σ.set i (some x)).set j (some y)) H1) :
    gTup K 2 (gCons (gName i) (gCons (gName j) gNil)) v σ H1 Q := g_twoM s r e k
end
end Dn
set_option Elab.async false
set_option linter.all false
set_option maxRecDepth 100000
set_option maxHeartbeats 2000000
namespace Dn
open PySem PySem.Spec PyProof.Rows L2
variable [CTab]
/-! ### zip of two sequences, lists or tuples in any mix -/
def SqX (K : PySem.W.Frag) (H : Hp) (k : Bool) (a : Addr) (xs : List V) : Prop := if k = true then SqT K H a xs else SqL K H a xs
def IterX (k : Bool) (h : Heap) (it a : Addr) (i : Nat) : Prop := if k = true then h.IsTupleIter it a i else h.IsListIter it a i
def IsX (k : Bool) (h : Heap) (a : Addr) (its : Array Value) : Prop := if k = true then h.IsTuple a its else h.IsList a its
theorem IterX.ob {k : Bool} {h : Heap} {it a : Addr} {i : Nat} (x : IterX k h it a i) : ∃ o, h.get? it = some o ∧ ∀ v, o.data ≠ .cell v := by
  cases k with
  | true => obtain ⟨o, e, _, d⟩ := (show h.IsTupleIter it a i from x); exact ⟨o, e, fun v q => by rw [d] at q; cases q⟩
  | false => obtain ⟨o, e, _, d⟩ := (show h.IsListIter it a i from x); exact ⟨o, e, fun v q => by rw [d] at q; cases q⟩
theorem IterX.at {k : Bool} {h h' : Heap} {it a : Addr} {i : Nat} (x : IterX k h it a i) (e : ∀ o, h.get? it = some o → h'.get? it = some o) : IterX k h' it a i := by
  cases k with
  | true => exact (show h.IsTupleIter it a i from x).at e
  | false => exact (show h.IsListIter it a i from x).at e
theorem drawsX {prog : Program} {w : World} {A : Around} (hh : A.handled = none) (k : Bool) (it l : Addr) (hne : l ≠ it) (items : Array Value) :
    Draws prog w A it [it, l] items.size (fun i v => items[i]? = some v) (fun i h => IterX k h it l i ∧ IsX k h l items) := by
  cases k with
  | true => exact Draws.tuple hh it l hne items
  | false => exact Draws.list hh it l hne items
theorem sqx_of {X : Cx} {pins : List (Addr × Obj)} {σ : L2.St} {H : Hp} {s : Shared} {k : Bool} {a : Addr} {xs : List V} (I : Inv X pins σ H s) (h : SqX X.K H k a xs) : ∃ its : List Value, Vals xs its ∧ IsX k s.heap a its.toArray ∧ a < s.heap.objs.size := by
  cases k with
  | true => obtain ⟨its, r, p, _⟩ := I.tuple (show SqT X.K H a xs from h); exact ⟨its, r, p, p.lt⟩
  | false => obtain ⟨its, r, p, _⟩ := I.list (show SqL X.K H a xs from h); exact ⟨its, r, p.isList, p.lt⟩
theorem sqx_inj {X : Cx} {pins : List (Addr × Obj)} {σ : L2.St} {H : Hp} {s : Shared} {k : Bool} {a : Addr} {xs ys : List V} (I : Inv X pins σ H s) (h : SqX X.K H k a xs) (h' : SqX X.K H k a ys) : xs = ys := by
  cases k with
  | true => exact I.tuple_inj h h'
  | false => exact I.list_inj h h'
def ItzX (K : PySem.W.Frag) (ka kb : Bool) (a b : Addr) : It :=
  ⟨fun i H => ∃ (xs ys : List V) (x y : V), SqX K H ka a xs ∧ SqX K H kb b ys ∧ xs[i]? = some x ∧ ys[i]? = some y,
    fun i H v H' => ∃ T x y, v = .ref T ∧ H T = none ∧ H' = upd H T (.tup [x, y]) ∧ (∀ xs, SqX K H ka a xs → xs[i]? = some x) ∧ ∀ ys, SqX K H kb b ys → ys[i]? = some y,
    fun i H => ∃ xs ys : List V, SqX K H ka a xs ∧ SqX K H kb b ys ∧ i ≤ xs.length ∧ i ≤ ys.length ∧ (i = xs.length ∨ i = ys.length)⟩
theorem turn_zipX {P : Program} {w : World} {K : PySem.W.Frag} {elts : List Expr} {kk : Nat} {tpos : Pos} {ka kb : Bool} {a b z TI TO i1 i2 : Addr} (D : ZipSep2 z TI TO i1 i2 [i1, a] [i2, b]) (na : a ≠ i1) (nb : b ≠ i2) :
    Turn P w K (.Tuple elts kk tpos) (ItzX K ka kb a b) [z, TI, TO, i1, i2] z (fun i h => IsZip h z TI TO .none ∧ IsTupOf2 h TI (.ref i1) (.ref i2) ∧ (∃ x y, IsTupOf2 h TO x y) ∧ IterX ka h i1 a i ∧ IterX kb h i2 b i) where
  mem := by simp
  obj := fun i h st c hc => by
    obtain ⟨hz, hTI, ⟨x, y, hTO⟩, h1, h2⟩ := st
    have e' : c = z ∨ c = TI ∨ c = TO ∨ c = i1 ∨ c = i2 := by simpa using hc
    rcases e' with q | q | q | q | q
    · rw [q]; exact ⟨_, hz, fun v q => nomatch q⟩
    · rw [q]; exact ⟨_, hTI, fun v q => nomatch q⟩
    · rw [q]; exact ⟨_, hTO, fun v q => nomatch q⟩
    · rw [q]; exact h1.ob
    · rw [q]; exact h2.ob
  keep := fun i h h' st k => by
    obtain ⟨hz, hTI, ⟨x, y, hTO⟩, h1, h2⟩ := st
    exact ⟨k z (by simp) _ hz, k TI (by simp) _ hTI, ⟨x, y, k TO (by simp) _ hTO⟩, h1.at fun o q => k i1 (by simp) o q, h2.at fun o q => k i2 (by simp) o q⟩
  item := by
    intro X hP hw hK hc i pins s σ H E I hf st hg
    subst hP hw hK
    obtain ⟨hz, hTI, ⟨x0, y0, hTO⟩, h1, h2⟩ := st
    obtain ⟨xs, ys, x, y, hqx, hqy, hx, hy⟩ := hg
    obtain ⟨its, rv, p, la⟩ := sqx_of I hqx
    obtain ⟨its2, rv2, p2, lb⟩ := sqx_of I hqy
    obtain ⟨u, hu, ru⟩ := rv.get hx
    obtain ⟨u2, hu2, ru2⟩ := rv2.get hy
    have hzl : z < s.heap.objs.size := Heap.lt_size hz
    have hh : X.A.in1.handled = none := I.ok.hd hc
    have hi1 : i < its.toArray.size := by simpa using (List.getElem?_eq_some_iff.mp hu).1
    have hi2 : i < its2.toArray.size := by simpa using (List.getElem?_eq_some_iff.mp hu2).1
    refine wpAny_pyNext_zipD2_item D (drawsX hh ka i1 a na its.toArray) (drawsX hh kb i2 b nb its2.toArray) hz hTI hTO ⟨h1, p⟩ ⟨h2, p2⟩ hi1 hi2 fun x1 x2 h' tk e1 e2 z' TO' st1' st2' hT hsz hk => ?_
    have ex1 : x1 = u := by
      have : its[i]? = some x1 := by simpa using e1
      rw [hu] at this; cases this; rfl
    have ex2 : x2 = u2 := by
      have : its2[i]? = some x2 := by simpa using e2
      rw [hu2] at this; cases this; rfl
    subst ex1 ex2
    refine ⟨_, rfl, wpAny_letOwnedTupleGo_zip (s := { s with heap := h', toks := tk }) z' fun h'' z'' sb => ?_⟩
    have hT2 : h''.get? s.heap.objs.size = some { cls := .type "tuple", data := .seq #[x1, x2] } := (sb.2 _ (Nat.ne_of_gt hzl)).trans hT
    have new : ObjOk X.prog X.w (upd H s.heap.objs.size (.tup [x, y])) h'' s.heap.objs.size (.tup [x, y]) :=
      ⟨by show 2 ≤ sizeLine; decide, [x1, x2], .cons ru (.cons ru2 .nil), ⟨_, hT2, rfl, _, rfl⟩⟩
    have I1 : Inv X pins σ (upd H s.heap.objs.size (.tup [x, y])) { s with heap := h'', toks := tk } :=
      I.turnedNew (t' := tk) (ch := [z, TI, TO, i1, i2]) (fun c o hb q => (sb.2 c (fun q' => hb (by simp [q']))).trans (hk c o (fun q' => hb (by simp [q'])) (fun q' => hb (by simp [q'])) (fun q' => hb (by simp [q'])) (fun q' => hb (by simp [q'])) q)) hf (Nat.le_refl _) new
    refine ⟨.ref s.heap.objs.size, _, I1, rfl, ⟨_, x, y, rfl, I.hok.fresh (Nat.le_refl _), rfl, fun l hl => by rw [sqx_inj I hl hqx]; exact hx, fun l hl => by rw [sqx_inj I hl hqy]; exact hy⟩, ⟨z'', ?_, ⟨x1, x2, ?_⟩, ?_, ?_⟩, fun c hcm => ?_⟩
    · exact (sb.2 _ D.TIz).trans (hk _ _ D.TIz D.TITO D.TIi1 D.TIi2 hTI)
    · exact (sb.2 _ D.TOz).trans TO'
    · exact st1'.1.at fun o q => (sb.2 _ D.zi1.symm).trans q
    · exact st2'.1.at fun o q => (sb.2 _ D.zi2.symm).trans q
    · have hlt : c < s.heap.objs.size := by
        have e' : c = z ∨ c = TI ∨ c = TO ∨ c = i1 ∨ c = i2 := by simpa using hcm
        rcases e' with q | q | q | q | q
        · rw [q]; exact hzl
        · rw [q]; exact Heap.lt_size hTI
        · rw [q]; exact Heap.lt_size hTO
        · rw [q]; obtain ⟨_, e1, _⟩ := h1.ob; exact Heap.lt_size e1
        · rw [q]; obtain ⟨_, e2, _⟩ := h2.ob; exact Heap.lt_size e2
      rw [upd_ne (Nat.ne_of_lt hlt)]
      exact (hf c hcm).1
  done := by
    intro X hP hw hK hc i pins s σ H E I hf st hg
    subst hP hw hK
    obtain ⟨hz, hTI, ⟨x0, y0, hTO⟩, h1, h2⟩ := st
    obtain ⟨xs, ys, hqx, hqy, hle1, hle2, hend⟩ := hg
    obtain ⟨its, rv, p, _⟩ := sqx_of I hqx
    obtain ⟨its2, rv2, p2, _⟩ := sqx_of I hqy
    have l1 := rv.length
    have l2 := rv2.length
    have hh : X.A.in1.handled = none := I.ok.hd hc
    exact wpAny_pyNext_zipD2_end D (drawsX hh ka i1 a na its.toArray) (drawsX hh kb i2 b nb its2.toArray) hz hTI hTO ⟨h1, p⟩ ⟨h2, p2⟩ (by simp; omega) (by simp; omega) (by simp; omega) fun h' tk hk => ⟨rfl, I.turnedL (t' := tk) (ch := [z, TI, TO, i1, i2]) (fun c o hb q =>
      hk c o (fun q' => hb (by simp [q'])) (fun q' => hb (by simp [q'])) (fun q' => hb (by simp [q'])) (fun q' => hb (by simp [q'])) q) hf⟩
  self := fun A i s Q E st h => wpAny_pyIter_zip st.1 h
def iZipU (K : PySem.W.Frag) (ta : TA) : TI := fun σ H R => ta σ H fun vs H1 => ∃ ka kb a b xs ys, vs = [.ref a, .ref b] ∧ SqX K H1 ka a xs ∧ SqX K H1 kb b ys ∧ R (ItzX K ka kb a b) H1
theorem beginsX (k : Bool) (a : Addr) (its : Array Value) : ∃ o : Obj, Begins (.ref a) o (fun h => IsX k h a its) ∧ ∀ (h : Heap) (it : Addr), h.get? it = some o → IterX k h it a 0 := by
  cases k with
  | true => exact ⟨_, begins_tuple a its, fun h it e => ⟨_, e, rfl, rfl⟩⟩
  | false => exact ⟨_, begins_list a its, fun h it e => ⟨_, e, rfl, rfl⟩⟩
theorem pi_zipU {X : Cx} {e e2 : Expr} {ta tb : TE} {p pos tpos : Pos} {elts : List Expr} {kk : Nat} (hg : Gl X "zip") (hm : X.mg "zip" = none) (h1 : PE X e ta) (h2 : PE X e2 tb)
    (he1 : starEach [e, e2] X.env = (false, eval e X.env) :: starEach [e2] X.env := by rfl) (he2 : starEach [e2] X.env = (false, eval e2 X.env) :: starEach [] X.env := by rfl) (hpl : (backTo pos (starEach [e2] X.env)).any (·.1) = false := by rfl) :
    PI X (.Tuple elts kk tpos) (.Call (.Name "zip" p) [e, e2] [] pos) (iZipU X.K (tCons ta (tCons tb tNil))) := by
  have ha : PA X [e, e2] (tCons ta (tCons tb tNil)) := pa_cons h1 (pa_cons h2 pa_nil he2) he1
  refine ⟨fun pins s σ H R I h => ?_⟩
  refine Call_ (ld_blt I hg hm PyProof.Rows.boot_zip (PyProof.Rows.callWith_type1 (thn (ha.run pos pins s σ H _ I h) fun us s1 ⟨vs, H1, I1, r1, q1⟩ => ?_) he1 hpl))
  obtain ⟨ka, kb, a, b, xs, ys, ex, hqx, hqy, q⟩ := q1
  subst ex
  cases r1 with
  | cons r rr =>
    cases rr with
    | cons r' rr =>
      cases rr
      cases r
      cases r'
      obtain ⟨its, rv, p1, la⟩ := sqx_of I1 hqx
      obtain ⟨its2, rv2, p2, lb⟩ := sqx_of I1 hqy
      obtain ⟨o1, b1, it1⟩ := beginsX ka a its.toArray
      obtain ⟨o2, b2, it2⟩ := beginsX kb b its2.toArray
      refine zip_begins2 b1 b2 p1 p2 fun h' hz hTI hTO g1 g2 hsz hk => wpAny_pyIter_zip hz ?_
      have I2 : Inv X pins σ H1 { s1 with heap := h' } := I1.kept (t' := s1.toks) hk
      refine ⟨s1.heap.objs.size + 4, [s1.heap.objs.size + 4, s1.heap.objs.size + 2, s1.heap.objs.size + 3, s1.heap.objs.size, s1.heap.objs.size + 1], _, _, H1, rfl, I2,
        turn_zipX (zip_sep2 (fp1 := [a]) (fp2 := [b]) (by simpa using la) (by simpa using lb)) (Nat.ne_of_lt la) (Nat.ne_of_lt (Nat.lt_succ_of_lt lb)), ⟨hz, hTI, ⟨_, _, hTO⟩, it1 _ _ g1, it2 _ _ g2⟩, fun c hcm => ?_, q⟩
      have e' : c = s1.heap.objs.size + 4 ∨ c = s1.heap.objs.size + 2 ∨ c = s1.heap.objs.size + 3 ∨ c = s1.heap.objs.size ∨ c = s1.heap.objs.size + 1 := by simpa using hcm
      have hle : s1.heap.objs.size ≤ c := by
        rcases e' with z | z | z | z | z
        · rw [z]; exact Nat.le_add_right _ _
        · rw [z]; exact Nat.le_add_right _ _
        · rw [z]; exact Nat.le_add_right _ _
        · rw [z]; exact Nat.le_refl _
        · rw [z]; exact Nat.le_add_right _ _
      exact I1.fpOk hle (I1.hok.fresh hle)
def zipL : List U → List U → List U
  | x :: xs, y :: ys => .tup [x, y] :: zipL xs ys
  | _, _ => []
theorem zipL_length : ∀ (xs ys : List U), (zipL xs ys).length = min xs.length ys.length
  | [], _ => by simp [zipL]
  | _ :: _, [] => by simp [zipL]
  | x :: xs, y :: ys => by simp [zipL, zipL_length xs ys]
theorem zipL_get : ∀ {xs ys : List U} {i : Nat} {x y : U}, xs[i]? = some x → ys[i]? = some y → (zipL xs ys)[i]? = some (.tup [x, y])
  | [], _, i, x, y, h, _ => by simp at h
  | _ :: _, [], i, x, y, _, h => by simp at h
  | a :: xs, b :: ys, 0, x, y, h, h' => by simp at h h'; subst h h'; rfl
  | a :: xs, b :: ys, i + 1, x, y, h, h' => by
    have := zipL_get (xs := xs) (ys := ys) (i := i) (x := x) (y := y) (by simpa using h) (by simpa using h')
    simpa [zipL] using this
def zipO (a b : Option U) : Option (List U) := a.bind fun x => b.bind fun y => x.items.bind fun xs => y.items.map fun ys => zipL xs ys
theorem sqx_items {K : PySem.W.Frag} {x : U} {xs : List U} {v : V} {B : Hp} (h : x.items = some xs) (r : Rp B x v) : ∃ k a vs, v = .ref a ∧ Rps B xs vs ∧ ∀ H, Same B H → SqX K H k a vs := by
  cases r with
  | @lst a _ vs e r => cases h; exact ⟨false, a, vs, rfl, r, fun H s => SqL.of (s _ _ e)⟩
  | @tup a _ vs e r => cases h; exact ⟨true, a, vs, rfl, r, fun H s => SqT.of (s _ _ e)⟩
  | @frl a _ vs o e r => cases h; exact ⟨false, a, vs, rfl, r, fun H s => .inl (.inr ⟨o, s _ _ e⟩)⟩
  | _ => cases h
section
variable {σ : L2.St} {B H : Hp} {ta tb : TE} {oa ob : Option U} {K : PySem.W.Frag}
theorem ei_zip (ha : EvO ta σ B H oa) (hb : EvO tb σ B H ob) : EvI (iZipU K (tCons ta (tCons tb tNil))) σ B H (zipO oa ob) := fun zs e B1 H1 g R q => by
  obtain ⟨x, ex, e⟩ := bind_some e
  obtain ⟨y, ey, e⟩ := bind_some e
  obtain ⟨xs, exs, e⟩ := bind_some e
  obtain ⟨ys, eys, e⟩ := map_some e
  subst e
  refine ha x ex B1 H1 g _ fun v B2 H2 g2 r2 => hb y ey B2 H2 (g.trans g2) _ fun w B3 H3 g3 r3 => ?_
  obtain ⟨ka, a, vs, rfl, ra, sa⟩ := sqx_items (K := K) exs (r2.up g3)
  obtain ⟨kb, b, ws, rfl, rb, sb⟩ := sqx_items (K := K) eys r3
  refine ⟨ka, kb, a, b, vs, ws, rfl, sa H3 g3.bh, sb H3 g3.bh, q _ B3 H3 (g2.trans g3) ?_⟩
  have l1 := ra.length
  have l2 := rb.length
  have hl := zipL_length xs ys
  refine ⟨fun i H' hi s => ?_, fun H' s => ?_, fun i H' v H'' B' hi s1 s2 y => ?_⟩
  · have h1 : i < vs.length := by omega
    have h2 : i < ws.length := by omega
    exact ⟨vs, ws, vs[i], ws[i], sa H' s, sb H' s, by simp [h1], by simp [h2]⟩
  · rw [hl]
    exact ⟨vs, ws, sa H' s, sb H' s, by omega, by omega, by omega⟩
  · obtain ⟨T, x1, y1, e1, e2, e3, f1, f2⟩ := y
    subst e1 e3
    obtain ⟨u1, eu1, ru1⟩ := ra.back (f1 vs (sa H' (s1.trans s2)))
    obtain ⟨u2, eu2, ru2⟩ := rb.back (f2 ws (sb H' (s1.trans s2)))
    exact ⟨_, _, Go.new s2 e2, zipL_get eu1 eu2, .tup upd_same ((Rps.cons (ru1.kp (Kp.of s1)) (.cons (ru2.kp (Kp.of s1)) .nil)).new s2 e2)⟩
end
end Dn
set_option Elab.async false
set_option linter.all false
set_option maxRecDepth 100000
set_option maxHeartbeats 2000000
namespace Dn
open PySem L2
variable [CTab]
/-! ### steps that change one's own objects -/
structure Gs (M : Addr → Prop) (B H B2 H2 : Hp) : Prop where
  h : ∀ a o, H a = some o → ¬ M a → H2 a = some o
  n : ∀ a, H2 a = none → H a = none
  b : Same B B2
  bh : Same B2 H2
  fr : ∀ a o, B2 a = some o → B a = some o ∨ H a = none ∨ M a
section
variable {M M' : Addr → Prop} {B H B1 H1 B2 H2 B3 H3 : Hp}
theorem Gs.of (g : Go B H B2 H2) : Gs M B H B2 H2 := ⟨fun a o e _ => g.h a o e, fun a e => g.h.free e, g.b, g.bh, fun a o e => (g.fr a o e).imp_right .inl⟩
theorem Gs.go (g : Gs (fun _ => False) B H B2 H2) : Go B H B2 H2 := ⟨fun a o e => g.h a o e id, g.b, g.bh, fun a o e => by
  rcases g.fr a o e with e | e | e
  · exact .inl e
  · exact .inr e
  · exact e.elim⟩
theorem Gs.refl (s : Same B H) : Gs M B H B H := .of (Go.refl s)
theorem Gs.trans (x : Gs M B H B2 H2) (y : Gs M B2 H2 B3 H3) : Gs M B H B3 H3 :=
  ⟨fun a o e hm => y.h a o (x.h a o e hm) hm, fun a e => x.n a (y.n a e), x.b.trans y.b, y.bh, fun a o e => by
    rcases y.fr a o e with e | e | e
    · exact x.fr a o e
    · exact .inr (.inl (x.n a e))
    · exact .inr (.inr e)⟩
theorem Gs.mono (x : Gs M B H B2 H2) (h : ∀ a, M a → M' a) : Gs M' B H B2 H2 := ⟨fun a o e hm => x.h a o e fun z => hm (h a z), x.n, x.b, x.bh, fun a o e => by
    rcases x.fr a o e with e | e | e
    · exact .inl e
    · exact .inr (.inl e)
    · exact .inr (.inr (h a e))⟩
theorem Gs.noB {p : Addr} {o : HO} (g : Gs M B H B2 H2) (hb : B p = none) (hp : H p = some o) (hM : ¬ M p) : B2 p = none := by
  cases q : B2 p with
  | none => rfl
  | some u =>
    rcases g.fr p u q with z | z | z
    · rw [hb] at z; cases z
    · rw [hp] at z; cases z
    · exact absurd z hM
theorem At.trs (x : At B B1 H1) (y : Gs M B1 H1 B2 H2) : At B B2 H2 := ⟨x.b.trans y.b, y.bh⟩
theorem Gs.at (g : Gs M B H B2 H2) : At B B2 H2 := ⟨g.b, g.bh⟩
/-- what changes below the base: what the base lets, or what is not there yet -/
theorem Gs.base {B0 H0 : Hp} (x : Gs M B0 H0 B H) (y : Gs M' B H B2 H2) (h : ∀ a, M' a → M a ∨ H0 a = none) : Gs M B0 H0 B2 H2 :=
  ⟨fun a o e hm => y.h a o (x.h a o e hm) fun z => by
      rcases h a z with z | z
      · exact hm z
      · (rw [e] at z; exact nomatch z), fun a e => x.n a (y.n a e), x.b.trans y.b, y.bh, fun a o e => by
    rcases y.fr a o e with e | e | e
    · exact x.fr a o e
    · exact .inr (.inl (x.n a e))
    · rcases h a e with e | e
      · exact .inr (.inr e)
      · exact .inr (.inl e)⟩
end
def U.own : U → Bool
  | .frl _ | .dic _ | .dit _ => true
  | _ => false
/-- one's own object at p -/
def OwnAt (B H : Hp) (p : Addr) : U → Prop
  | .frl xs => ∃ vs, H p = some (.lst vs) ∧ Rps B xs vs
  | .dic kvs => ∃ es, H p = some (.dK es) ∧ Rpk B kvs es
  | .dit kvs => ∃ es, H p = some (.dT es) ∧ Rpt B kvs es
  | _ => False
theorem OwnAt.own {B H : Hp} {p : Addr} {u : U} (h : OwnAt B H p u) : u.own = true := by
  cases u <;> first | rfl | exact h.elim
theorem OwnAt.ex {B H : Hp} {p : Addr} {u : U} (h : OwnAt B H p u) : ∃ o, H p = some o := by
  cases u with
  | frl xs => obtain ⟨_, e, _⟩ := h; exact ⟨_, e⟩
  | dic xs => obtain ⟨_, e, _⟩ := h; exact ⟨_, e⟩
  | dit xs => obtain ⟨_, e, _⟩ := h; exact ⟨_, e⟩
  | _ => exact h.elim
theorem OwnAt.up {B H B2 H2 : Hp} {p : Addr} {u : U} (h : OwnAt B H p u) (e : ∀ o, H p = some o → H2 p = some o) (s : Same B B2) : OwnAt B2 H2 p u := by
  cases u with
  | frl xs => obtain ⟨vs, h1, r⟩ := h; exact ⟨vs, e _ h1, r.kp (Kp.of s)⟩
  | dic xs => obtain ⟨vs, h1, r⟩ := h; exact ⟨vs, e _ h1, r.kp (Kp.of s)⟩
  | dit xs => obtain ⟨vs, h1, r⟩ := h; exact ⟨vs, e _ h1, r.kp (Kp.of s)⟩
  | _ => exact h.elim
/-- .non: it is taken away, nothing is said -/
structure OwP (M : Addr → Prop) (B H : Hp) (p : Addr) (u : U) : Prop where
  m : M p
  ex : ∃ o, H p = some o
  at_ : u = .non ∨ (B p = none ∧ OwnAt B H p u)
theorem OwP.own {M : Addr → Prop} {B H : Hp} {p : Addr} {u : U} (w : OwP M B H p u) (h : u.own = true) : B p = none ∧ OwnAt B H p u := by
  rcases w.at_ with e | e
  · subst e; cases h
  · exact e
structure Ows (M : Addr → Prop) (B H : Hp) (ps : List Addr) (us : List U) : Prop where
  len : us.length = ps.length
  nd : ∀ (i j : Nat) p, ps[i]? = some p → ps[j]? = some p → i = j
  at_ : ∀ (j : Nat) p u, ps[j]? = some p → us[j]? = some u → OwP M B H p u
abbrev inP (ps : List Addr) : Addr → Prop := fun a => a ∈ ps
section
variable {M : Addr → Prop} {B H B1 H1 B2 H2 : Hp} {ps : List Addr} {us : List U}
theorem ows_nil : Ows M B H [] [] := ⟨rfl, fun i j p h => by simp at h, fun j p u h => by simp at h⟩
theorem Ows.get (w : Ows M B H ps us) {j : Nat} {u : U} (h : us[j]? = some u) : ∃ p, ps[j]? = some p ∧ OwP M B H p u := by
  have hl : j < ps.length := by rw [← w.len]; exact (List.getElem?_eq_some_iff.mp h).1
  exact ⟨ps[j], by simp [hl], w.at_ j _ u (by simp [hl]) h⟩
theorem Ows.ofMem (w : Ows M B H ps us) {p : Addr} (h : p ∈ ps) : ∃ (j : Nat) (u : U), ps[j]? = some p ∧ us[j]? = some u ∧ OwP M B H p u := by
  obtain ⟨j, hj, e⟩ := List.getElem_of_mem h
  have hl : j < us.length := by rw [w.len]; exact hj
  exact ⟨j, us[j], by simp [hj, e], by simp [hl], w.at_ j p _ (by simp [hj, e]) (by simp [hl])⟩
theorem Ows.exs (w : Ows M B H ps us) {p : Addr} (h : p ∈ ps) : ∃ o, H p = some o := by
  obtain ⟨j, u, _, _, q⟩ := w.ofMem h
  exact q.ex
theorem Ows.ms (w : Ows M B H ps us) {p : Addr} (h : p ∈ ps) : M p := by
  obtain ⟨j, u, _, _, q⟩ := w.ofMem h
  exact q.m
theorem Ows.fresh (w : Ows M B H ps us) {p : Addr} (h : H p = none) : p ∉ ps := fun z => by
  obtain ⟨o, e⟩ := w.exs z
  rw [h] at e; cases e
/-- nothing of one's own has changed -/
theorem Ows.keep (w : Ows M B H ps us) (e : ∀ p ∈ ps, ∀ o, H p = some o → H2 p = some o) (s : Same B B2) (hb : ∀ p ∈ ps, B p = none → B2 p = none) : Ows M B2 H2 ps us :=
  ⟨w.len, w.nd, fun j p u hp hu => by
    have hm : p ∈ ps := List.mem_of_getElem? hp
    obtain ⟨q1, ⟨o, q2⟩, q3⟩ := w.at_ j p u hp hu
    refine ⟨q1, ⟨o, e p hm o q2⟩, ?_⟩
    rcases q3 with q3 | ⟨q3, q4⟩
    · exact .inl q3
    · exact .inr ⟨hb p hm q3, q4.up (e p hm) s⟩⟩
theorem Ows.go (w : Ows M B H ps us) (g : Go B H B2 H2) : Ows M B2 H2 ps us := w.keep (fun p _ o e => g.h p o e) g.b fun p hp hb => by
  obtain ⟨o, e⟩ := w.exs hp
  exact g.noB hb e
theorem Ows.set (w : Ows M B H ps us) {j : Nat} {p : Addr} {u : U} (hp : ps[j]? = some p) (e : ∀ q ∈ ps, q ≠ p → ∀ o, H q = some o → H2 q = some o) (s : Same B B2) (hb : ∀ q ∈ ps, q ≠ p → B q = none → B2 q = none) (n : OwP M B2 H2 p u) : Ows M B2 H2 ps (us.set j u) := by
  have hj : j < us.length := by rw [w.len]; exact (List.getElem?_eq_some_iff.mp hp).1
  refine ⟨by rw [List.length_set, w.len], w.nd, fun i q v hq hv => ?_⟩
  by_cases hij : i = j
  · subst hij
    rw [hp] at hq; cases hq
    rw [List.getElem?_set_self hj] at hv; cases hv
    exact n
  · rw [List.getElem?_set_ne (Ne.symm hij)] at hv
    have hm : q ∈ ps := List.mem_of_getElem? hq
    have hne : q ≠ p := fun z => hij (w.nd i j q hq (by rw [z]; exact hp))
    obtain ⟨q1, ⟨o, q2⟩, q3⟩ := w.at_ i q v hq hv
    refine ⟨q1, ⟨o, e q hm hne o q2⟩, ?_⟩
    rcases q3 with q3 | ⟨q3, q4⟩
    · exact .inl q3
    · exact .inr ⟨hb q hm hne q3, q4.up (e q hm hne) s⟩
/-- one more -/
theorem Ows.add (w : Ows M B H ps us) {p : Addr} {u : U} (hn : p ∉ ps) (n : OwP M B H p u) : Ows M B H (ps ++ [p]) (us ++ [u]) := by
  refine ⟨by simp [w.len], ?_, fun j q v hq hv => ?_⟩
  · intro a b q ha hb
    have key : ∀ (a : Nat), (ps ++ [p])[a]? = some q → (a < ps.length ∧ ps[a]? = some q) ∨ (a = ps.length ∧ q = p) := fun a ha => by
      by_cases hj : a < ps.length
      · rw [List.getElem?_append_left hj] at ha
        exact .inl ⟨hj, ha⟩
      · rw [List.getElem?_append_right (by omega)] at ha
        have e : a - ps.length = 0 := by
          have := (List.getElem?_eq_some_iff.mp ha).1
          simp at this; omega
        rw [e] at ha
        cases ha
        exact .inr ⟨by omega, rfl⟩
    rcases key a ha with ⟨_, h1⟩ | ⟨h1, h1'⟩
    · rcases key b hb with ⟨_, h2⟩ | ⟨h2, h2'⟩
      · exact w.nd a b q h1 h2
      · exact absurd (List.mem_of_getElem? h1) (h2' ▸ hn)
    · rcases key b hb with ⟨_, h2⟩ | ⟨h2, h2'⟩
      · exact absurd (List.mem_of_getElem? h2) (h1' ▸ hn)
      · omega
  · by_cases hj : j < ps.length
    · rw [List.getElem?_append_left hj] at hq
      rw [List.getElem?_append_left (by rw [w.len]; exact hj)] at hv
      exact w.at_ j q v hq hv
    · rw [List.getElem?_append_right (by omega)] at hq
      rw [List.getElem?_append_right (by rw [w.len]; omega)] at hv
      rw [w.len] at hv
      have e : j - ps.length = 0 := by
        have := (List.getElem?_eq_some_iff.mp hq).1
        simp at this; omega
      rw [e] at hq hv
      cases hq; cases hv
      exact n
/-- another one in its place -/
theorem Ows.swap (w : Ows M B H ps us) {j : Nat} {p : Addr} {u : U} (hj : j < ps.length) (hn : p ∉ ps) (n : OwP M B H p u) : Ows M B H (ps.set j p) (us.set j u) := by
  refine ⟨by simp [w.len], ?_, fun i q v hq hv => ?_⟩
  · intro a b q ha hb
    by_cases e1 : a = j
    · by_cases e2 : b = j
      · omega
      · subst e1
        rw [List.getElem?_set_self hj] at ha
        rw [List.getElem?_set_ne (Ne.symm e2)] at hb
        cases ha
        exact absurd (List.mem_of_getElem? hb) hn
    · by_cases e2 : b = j
      · subst e2
        rw [List.getElem?_set_self hj] at hb
        rw [List.getElem?_set_ne (Ne.symm e1)] at ha
        cases hb
        exact absurd (List.mem_of_getElem? ha) hn
      · rw [List.getElem?_set_ne (Ne.symm e1)] at ha
        rw [List.getElem?_set_ne (Ne.symm e2)] at hb
        exact w.nd a b q ha hb
  · by_cases e1 : i = j
    · subst e1
      rw [List.getElem?_set_self hj] at hq
      rw [List.getElem?_set_self (by rw [w.len]; exact hj)] at hv
      cases hq; cases hv
      exact n
    · rw [List.getElem?_set_ne (Ne.symm e1)] at hq hv
      exact w.at_ i q v hq hv
theorem Ows.take (w : Ows M B H ps us) (n : Nat) : Ows M B H (ps.take n) (us.take n) := by
  refine ⟨by simp [w.len], fun i j p h1 h2 => ?_, fun j p u hp hu => ?_⟩
  · rw [List.getElem?_take] at h1 h2
    split at h1
    · split at h2
      · exact w.nd i j p h1 h2
      · cases h2
    · cases h1
  rw [List.getElem?_take] at hp hu
  split at hp
  · rename_i hj
    rw [if_pos hj] at hu
    exact w.at_ j p u hp hu
  · cases hp
end
/-! ### the state: what one's own objects have in them -/
abbrev SM (α : Type) := List U → Option (α × List U)
def pureS {α : Type} (o : Option α) : SM α := fun us => o.map fun x => (x, us)
def bindS {α β : Type} (F : SM α) (k : α → SM β) : SM β := fun us => (F us).bind fun r => k r.1 r.2
theorem pureS_some {α : Type} {o : Option α} {us : List U} {x : α} {us' : List U} (h : pureS o us = some (x, us')) : o = some x ∧ us' = us := by
  obtain ⟨y, e, h⟩ := map_some h
  cases h
  exact ⟨e, rfl⟩
theorem bindS_some {α β : Type} {F : SM α} {k : α → SM β} {us : List U} {z : β × List U} (h : bindS F k us = some z) : ∃ x us1, F us = some (x, us1) ∧ k x us1 = some z := by
  obtain ⟨⟨x, us1⟩, e, h⟩ := bind_some h
  exact ⟨x, us1, e, h⟩
section
variable (M : Addr → Prop) (ps : List Addr) (σ : St) (B : Hp)
def EvS (te : TE) (F : SM U) : Prop :=
  ∀ us z us', F us = some (z, us') → ∀ B1 H1, At B B1 H1 → Ows M B1 H1 ps us → ∀ Q : VK, (∀ v B2 H2, Gs (inP ps) B1 H1 B2 H2 → Rp B2 z v → Ows M B2 H2 ps us' → Q v H2) → te σ H1 Q
def EvTS (tt : TT) (F : SM Bool) : Prop :=
  ∀ us z us', F us = some (z, us') → ∀ B1 H1, At B B1 H1 → Ows M B1 H1 ps us → ∀ Q : Bool → Hp → Prop, (∀ B2 H2, Gs (inP ps) B1 H1 B2 H2 → Ows M B2 H2 ps us' → Q z H2) → tt σ H1 Q
def EvAS (ta : TA) (F : SM (List U)) : Prop :=
  ∀ us z us', F us = some (z, us') → ∀ B1 H1, At B B1 H1 → Ows M B1 H1 ps us → ∀ Q : List V → Hp → Prop, (∀ v B2 H2, Gs (inP ps) B1 H1 B2 H2 → Rps B2 z v → Ows M B2 H2 ps us' → Q v H2) → ta σ H1 Q
def EvPS (tp : TO) (F : SM (Option Int)) : Prop :=
  ∀ us z us', F us = some (z, us') → ∀ B1 H1, At B B1 H1 → Ows M B1 H1 ps us → ∀ Q : Option Int → Hp → Prop, (∀ B2 H2, Gs (inP ps) B1 H1 B2 H2 → Ows M B2 H2 ps us' → Q z H2) → tp σ H1 Q
def EvIS (wi : TI) (F : SM (List U)) : Prop :=
  ∀ us xs us', F us = some (xs, us') → ∀ B1 H1, At B B1 H1 → Ows M B1 H1 ps us → ∀ R : It → Hp → Prop, (∀ J B2 H2, Gs (inP ps) B1 H1 B2 H2 → WalkU J xs B2 → Ows M B2 H2 ps us' → R J H2) → wi σ H1 R
/-- a new object of one's own -/
def EvN (te : TE) (F : SM U) : Prop :=
  ∀ us u us', F us = some (u, us') → ∀ B1 H1, At B B1 H1 → Ows M B1 H1 ps us → ∀ Q : VK, (∀ p B2 H2, Gs (inP ps) B1 H1 B2 H2 → H1 p = none → B2 p = none → OwnAt B2 H2 p u → Ows M B2 H2 ps us' → Q (.ref p) H2) → te σ H1 Q
end
section
variable {M : Addr → Prop} {ps : List Addr} {σ : St} {B H : Hp} {ta tb tc te : TE} {t u : TT} {tl tr : TA} {F G : SM U} {K : PySem.W.Frag}
theorem es_of {o : Option U} (h : EvO te σ B H o) : EvS M ps σ B te (pureS o) := fun us z us' e B1 H1 g w Q q => by
  obtain ⟨ee, rfl⟩ := pureS_some e; clear e; have e := ee; clear ee
  exact h z e B1 H1 g Q fun v B2 H2 g2 r => q v B2 H2 (.of g2) r (w.go g2)
theorem ets_of {o : Option Bool} (h : EvT t σ B H o) : EvTS M ps σ B t (pureS o) := fun us z us' e B1 H1 g w Q q => by
  obtain ⟨ee, rfl⟩ := pureS_some e; clear e; have e := ee; clear ee
  exact h z e B1 H1 g Q fun B2 H2 g2 => q B2 H2 (.of g2) (w.go g2)
theorem eas_of {o : Option (List U)} (h : EvA tl σ B H o) : EvAS M ps σ B tl (pureS o) := fun us z us' e B1 H1 g w Q q => by
  obtain ⟨ee, rfl⟩ := pureS_some e; clear e; have e := ee; clear ee
  exact h z e B1 H1 g Q fun v B2 H2 g2 r => q v B2 H2 (.of g2) r (w.go g2)
theorem eps_of {tp : TO} {o : Option (Option Int)} (h : EvP tp σ B H o) : EvPS M ps σ B tp (pureS o) := fun us z us' e B1 H1 g w Q q => by
  obtain ⟨ee, rfl⟩ := pureS_some e; clear e; have e := ee; clear ee
  exact h z e B1 H1 g Q fun B2 H2 g2 => q B2 H2 (.of g2) (w.go g2)
theorem eis_of {wi : TI} {o : Option (List U)} (h : EvI wi σ B H o) : EvIS M ps σ B wi (pureS o) := fun us z us' e B1 H1 g w Q q => by
  obtain ⟨ee, rfl⟩ := pureS_some e; clear e; have e := ee; clear ee
  exact h z e B1 H1 g Q fun J B2 H2 g2 r => q J B2 H2 (.of g2) r (w.go g2)
/-- nothing of one's own about: what it comes to, plainly -/
theorem eo_es (h : EvS (fun _ => True) [] σ B te F) : EvO te σ B H ((F []).map Prod.fst) := fun z e B1 H1 g Q q => by
  obtain ⟨⟨z', us'⟩, e1, e⟩ := map_some e
  subst e
  exact h [] z' us' e1 B1 H1 g ows_nil Q fun v B2 H2 g2 r _ => q v B2 H2 (Gs.go (g2.mono fun a ha => by simp [inP] at ha)) r
def opS (f : U → U → Option U) (F G : SM U) : SM U := bindS F fun x => bindS G fun y => pureS (f x y)
theorem es_op2 {r : R2} {f : U → U → Option U} (hr : RV r f) (ha : EvS M ps σ B ta F) (hb : EvS M ps σ B tb G) : EvS M ps σ B (tOp r ta tb) (opS f F G) := fun us z us' e B1 H1 g w Q q => by
  obtain ⟨x, us1, ex, e⟩ := bindS_some e
  obtain ⟨y, us2, ey, e⟩ := bindS_some e
  obtain ⟨ee, rfl⟩ := pureS_some e; clear e; have e := ee; clear ee
  exact ha _ _ _ ex B1 H1 g w _ fun v B2 H2 g2 r2 w2 => hb _ _ _ ey B2 H2 (g.trs g2) w2 _ fun v' B3 H3 g3 r3 w3 => hr x y z e v v' B3 H3 g3.bh (r2.upA g3.at) r3 Q fun v2 B4 H4 g4 r4 => q v2 B4 H4 ((g2.trans g3).trans (.of g4)) r4 (w3.go g4)
def op1S (f : U → Option U) (F : SM U) : SM U := bindS F fun x => pureS (f x)
theorem es_op1 {r : V → Hp → VK → Prop} {f : U → Option U} (hr : RU r f) (ha : EvS M ps σ B ta F) : EvS M ps σ B (tUn r ta) (op1S f F) := fun us z us' e B1 H1 g w Q q => by
  obtain ⟨x, us1, ex, e⟩ := bindS_some e
  obtain ⟨ee, rfl⟩ := pureS_some e; clear e; have e := ee; clear ee
  exact ha _ _ _ ex B1 H1 g w _ fun v B2 H2 g2 r2 w2 => hr x z e v B2 H2 g2.bh r2 Q fun v2 B4 H4 g4 r4 => q v2 B4 H4 (g2.trans (.of g4)) r4 (w2.go g4)
def callS (f : List U → Option U) (F : SM (List U)) : SM U := bindS F fun x => pureS (f x)
theorem es_cb {r : List V → Hp → VK → Prop} {f : List U → Option U} {F : SM (List U)} (hr : RC r f) (ha : EvAS M ps σ B tl F) : EvS M ps σ B (tCB r tl) (callS f F) := fun us z us' e B1 H1 g w Q q => by
  obtain ⟨x, us1, ex, e⟩ := bindS_some e
  obtain ⟨ee, rfl⟩ := pureS_some e; clear e; have e := ee; clear ee
  exact ha _ _ _ ex B1 H1 g w _ fun v B2 H2 g2 r2 w2 => hr x z e v B2 H2 g2.bh r2 Q fun v2 B4 H4 g4 r4 => q v2 B4 H4 (g2.trans (.of g4)) r4 (w2.go g4)
theorem es_call {m : List U → Option U} {E : XK} {F : SM (List U)} (ha : EvAS M ps σ B tl F) : EvS M ps σ B (tCall (spU m) [] E tl) (callS m F) := fun us z us' e B1 H1 g w Q q => by
  obtain ⟨x, us1, ex, e⟩ := bindS_some e
  obtain ⟨ee, rfl⟩ := pureS_some e; clear e; have e := ee; clear ee
  refine ha _ _ _ ex B1 H1 g w _ fun vs B2 H2 g2 r w2 => ?_
  show spU m (vs ++ []) H2 Q E
  rw [List.append_nil]
  exact ⟨B2, x, z, g2.bh, r, e, fun v B3 H3 g3 r3 => q v B3 H3 (g2.trans (.of g3)) r3 (w2.go g3)⟩
def consS (F : SM U) (G : SM (List U)) : SM (List U) := bindS F fun x => bindS G fun r => pureS (some (x :: r))
theorem eas_nil : EvAS M ps σ B tNil (pureS (some [])) := eas_of (H := B) ea_nil
theorem eas_cons {G : SM (List U)} (h : EvS M ps σ B ta F) (hr : EvAS M ps σ B tr G) : EvAS M ps σ B (tCons ta tr) (consS F G) := fun us z us' e B1 H1 g w Q q => by
  obtain ⟨x, us1, ex, e⟩ := bindS_some e
  obtain ⟨r, us2, er, e⟩ := bindS_some e
  obtain ⟨ee, rfl⟩ := pureS_some e; clear e; have e := ee; clear ee
  cases e
  exact h _ _ _ ex B1 H1 g w _ fun v B2 H2 g2 r2 w2 => hr _ _ _ er B2 H2 (g.trs g2) w2 _ fun vs B3 H3 g3 r3 w3 => q _ B3 H3 (g2.trans g3) (.cons (r2.upA g3.at) r3) w3
def tupS (F : SM (List U)) : SM U := bindS F fun xs => pureS (if xs.length ≤ lim then some (.tup xs) else none)
def lstS (F : SM (List U)) : SM U := bindS F fun xs => pureS (if xs.length ≤ lim then some (.lst xs) else none)
theorem es_tup {F : SM (List U)} (h : EvAS M ps σ B tl F) : EvS M ps σ B (tTup tl) (tupS F) := fun us z us' e B1 H1 g w Q q => by
  obtain ⟨x, us1, ex, e⟩ := bindS_some e
  obtain ⟨ee, rfl⟩ := pureS_some e; clear e; have e := ee; clear ee
  split at e
  · rename_i hl
    cases e
    exact h _ _ _ ex B1 H1 g w _ fun vs B2 H2 g2 r w2 => ⟨by rw [r.length]; exact lim_size hl, fun p hp => q _ _ _ (g2.trans (.of (Go.new g2.bh hp))) (.tup upd_same (r.new g2.bh hp)) (w2.go (Go.new g2.bh hp))⟩
  · cases e
theorem es_lst {F : SM (List U)} (h : EvAS M ps σ B tl F) : EvS M ps σ B (tLst tl) (lstS F) := fun us z us' e B1 H1 g w Q q => by
  obtain ⟨x, us1, ex, e⟩ := bindS_some e
  obtain ⟨ee, rfl⟩ := pureS_some e; clear e; have e := ee; clear ee
  split at e
  · rename_i hl
    cases e
    exact h _ _ _ ex B1 H1 g w _ fun vs B2 H2 g2 r w2 => ⟨by rw [r.length]; exact lim_size hl, fun p hp => q _ _ _ (g2.trans (.of (Go.new g2.bh hp))) (.lst upd_same (r.new g2.bh hp)) (w2.go (Go.new g2.bh hp))⟩
  · cases e
/-! tests -/
def testS (F : SM U) : SM Bool := bindS F fun x => pureS x.asB
theorem ets_test (h : EvS M ps σ B te F) : EvTS M ps σ B (tTest te) (testS F) := fun us z us' e B1 H1 g w _ q => by
  obtain ⟨x, us1, ex, e⟩ := bindS_some e
  obtain ⟨ee, rfl⟩ := pureS_some e; clear e; have e := ee; clear ee
  cases x <;> cases e
  exact h _ _ _ ex B1 H1 g w _ fun v B2 H2 g2 r w2 => by cases r; exact ⟨_, rfl, q B2 H2 g2 w2⟩
theorem ets_B (h : EvS M ps σ B te F) : EvTS M ps σ B (tB te) (testS F) := fun us z us' e B1 H1 g w _ q => by
  obtain ⟨x, us1, ex, e⟩ := bindS_some e
  obtain ⟨ee, rfl⟩ := pureS_some e; clear e; have e := ee; clear ee
  cases x <;> cases e
  exact h _ _ _ ex B1 H1 g w _ fun v B2 H2 g2 r w2 => by cases r; exact ⟨_, rfl, q B2 H2 g2 w2⟩
def andS (F G : SM Bool) : SM Bool := bindS F fun x => if x = true then G else pureS (some false)
def orS (F G : SM Bool) : SM Bool := bindS F fun x => if x = true then pureS (some true) else G
def notS (F : SM Bool) : SM Bool := bindS F fun x => pureS (some (!x))
theorem ets_and {F G : SM Bool} (h1 : EvTS M ps σ B t F) (h2 : EvTS M ps σ B u G) : EvTS M ps σ B (tAnd t u) (andS F G) := fun us z us' e B1 H1 g w Q q => by
  obtain ⟨x, us1, ex, e⟩ := bindS_some e
  refine h1 _ _ _ ex B1 H1 g w _ fun B2 H2 g2 w2 => ?_
  cases x with
  | true => exact h2 _ _ _ e B2 H2 (g.trs g2) w2 Q fun B3 H3 g3 w3 => q B3 H3 (g2.trans g3) w3
  | false =>
    obtain ⟨ee, rfl⟩ := pureS_some (show pureS (some false) us1 = _ from e); clear e; have e := ee; clear ee
    cases e
    exact q B2 H2 g2 w2
theorem ets_or {F G : SM Bool} (h1 : EvTS M ps σ B t F) (h2 : EvTS M ps σ B u G) : EvTS M ps σ B (tOr t u) (orS F G) := fun us z us' e B1 H1 g w Q q => by
  obtain ⟨x, us1, ex, e⟩ := bindS_some e
  refine h1 _ _ _ ex B1 H1 g w _ fun B2 H2 g2 w2 => ?_
  cases x with
  | false => exact h2 _ _ _ e B2 H2 (g.trs g2) w2 Q fun B3 H3 g3 w3 => q B3 H3 (g2.trans g3) w3
  | true =>
    obtain ⟨ee, rfl⟩ := pureS_some (show pureS (some true) us1 = _ from e); clear e; have e := ee; clear ee
    cases e
    exact q B2 H2 g2 w2
theorem ets_not {F : SM Bool} (h1 : EvTS M ps σ B t F) : EvTS M ps σ B (tNot t) (notS F) := fun us z us' e B1 H1 g w _ q => by
  obtain ⟨x, us1, ex, e⟩ := bindS_some e
  obtain ⟨ee, rfl⟩ := pureS_some e; clear e; have e := ee; clear ee
  cases e
  exact h1 _ _ _ ex B1 H1 g w _ fun B2 H2 g2 w2 => q B2 H2 g2 w2
def andVS (F G : SM U) : SM U := bindS (testS F) fun x => if x = true then G else pureS (some (.bl false))
def orVS (F G : SM U) : SM U := bindS (testS F) fun x => if x = true then pureS (some (.bl true)) else G
def notVS (F : SM U) : SM U := bindS (testS F) fun x => pureS (some (.bl (!x)))
theorem testS_some {us us1 : List U} {x : Bool} (h : testS F us = some (x, us1)) : F us = some (.bl x, us1) := by
  obtain ⟨y, us2, ey, h⟩ := bindS_some h
  obtain ⟨h, rfl⟩ := pureS_some h
  cases y <;> cases h
  exact ey
theorem es_and (h1 : EvS M ps σ B ta F) (h2 : EvS M ps σ B tb G) : EvS M ps σ B (tAndV ta tb) (andVS F G) := fun us z us' e B1 H1 g w Q q => by
  obtain ⟨x, us1, ex, e⟩ := bindS_some e
  refine h1 _ _ _ (testS_some ex) B1 H1 g w _ fun v B2 H2 g2 r w2 => ?_
  cases r
  refine ⟨x, rfl, ?_⟩
  cases x with
  | true => exact h2 _ _ _ e B2 H2 (g.trs g2) w2 Q fun v B3 H3 g3 r3 w3 => q v B3 H3 (g2.trans g3) r3 w3
  | false =>
    obtain ⟨ee, rfl⟩ := pureS_some (show pureS (some (U.bl false)) us1 = _ from e); clear e; have e := ee; clear ee
    cases e
    exact q _ B2 H2 g2 (.bl false) w2
theorem es_or (h1 : EvS M ps σ B ta F) (h2 : EvS M ps σ B tb G) : EvS M ps σ B (tOrV ta tb) (orVS F G) := fun us z us' e B1 H1 g w Q q => by
  obtain ⟨x, us1, ex, e⟩ := bindS_some e
  refine h1 _ _ _ (testS_some ex) B1 H1 g w _ fun v B2 H2 g2 r w2 => ?_
  cases r
  refine ⟨x, rfl, ?_⟩
  cases x with
  | false => exact h2 _ _ _ e B2 H2 (g.trs g2) w2 Q fun v B3 H3 g3 r3 w3 => q v B3 H3 (g2.trans g3) r3 w3
  | true =>
    obtain ⟨ee, rfl⟩ := pureS_some (show pureS (some (U.bl true)) us1 = _ from e); clear e; have e := ee; clear ee
    cases e
    exact q _ B2 H2 g2 (.bl true) w2
theorem es_not (h1 : EvS M ps σ B ta F) : EvS M ps σ B (tNotV ta) (notVS F) := fun us z us' e B1 H1 g w Q q => by
  obtain ⟨x, us1, ex, e⟩ := bindS_some e
  obtain ⟨ee, rfl⟩ := pureS_some e; clear e; have e := ee; clear ee
  cases e
  refine h1 _ _ _ (testS_some ex) B1 H1 g w _ fun v B2 H2 g2 r w2 => ?_
  cases r
  exact ⟨x, rfl, q _ B2 H2 g2 (.bl _) w2⟩
def ifS {α : Type} (c : SM Bool) (F G : SM α) : SM α := bindS c fun x => if x = true then F else G
theorem es_if {c : SM Bool} (h : EvTS M ps σ B t c) (h1 : EvS M ps σ B ta F) (h2 : EvS M ps σ B tb G) : EvS M ps σ B (tIf t ta tb) (ifS c F G) := fun us z us' e B1 H1 g w Q q => by
  obtain ⟨x, us1, ex, e⟩ := bindS_some e
  refine h _ _ _ ex B1 H1 g w _ fun B2 H2 g2 w2 => ?_
  cases x with
  | true => exact h1 _ _ _ e B2 H2 (g.trs g2) w2 Q fun v B3 H3 g3 r3 w3 => q v B3 H3 (g2.trans g3) r3 w3
  | false => exact h2 _ _ _ e B2 H2 (g.trs g2) w2 Q fun v B3 H3 g3 r3 w3 => q v B3 H3 (g2.trans g3) r3 w3
theorem en_if {c : SM Bool} (h : EvTS M ps σ B t c) (h1 : EvN M ps σ B ta F) (h2 : EvN M ps σ B tb G) : EvN M ps σ B (tIf t ta tb) (ifS c F G) := fun us z us' e B1 H1 g w Q q => by
  obtain ⟨x, us1, ex, e⟩ := bindS_some e
  refine h _ _ _ ex B1 H1 g w _ fun B2 H2 g2 w2 => ?_
  cases x with
  | true => exact h1 _ _ _ e B2 H2 (g.trs g2) w2 Q fun p B3 H3 g3 n3 b3 o3 w3 => q p B3 H3 (g2.trans g3) (g2.n p n3) b3 o3 w3
  | false => exact h2 _ _ _ e B2 H2 (g.trs g2) w2 Q fun p B3 H3 g3 n3 b3 o3 w3 => q p B3 H3 (g2.trans g3) (g2.n p n3) b3 o3 w3
/-! what is iterated over -/
def itemsS (F : SM U) : SM (List U) := bindS F fun x => pureS x.items
theorem eis_seq (h : EvS M ps σ B te F) : EvIS M ps σ B (iSeq K te) (itemsS F) := fun us xs us' e B1 H1 g w R q => by
  obtain ⟨x, us1, ex, e⟩ := bindS_some e
  obtain ⟨ee, rfl⟩ := pureS_some e; clear e; have e := ee; clear ee
  refine h _ _ _ ex B1 H1 g w _ fun v B2 H2 g2 r w2 => ?_
  have h2 : EvO (fun _ H Q => Q v H) σ B2 H2 (some x) := fun z ez B3 H3 g3 Q q => by cases ez; exact q v B3 H3 (Go.refl g3.bh) (r.upA g3)
  exact ei_seq h2 xs (by simpa using e) B2 H2 (At.refl g2.bh) R fun J B3 H3 g3 wk => q J B3 H3 (g2.trans (.of g3)) wk (w2.go g3)
def rngS (f : List U → Option (List U)) (F : SM (List U)) : SM (List U) := bindS F fun x => pureS (f x)
theorem eis_rng1 {F : SM (List U)} (h : EvAS M ps σ B tl F) : EvIS M ps σ B (iRng1 tl) (rngS rng1 F) := fun us xs us' e B1 H1 g w R q => by
  obtain ⟨x, us1, ex, e⟩ := bindS_some e
  obtain ⟨ee, rfl⟩ := pureS_some e; clear e; have e := ee; clear ee
  refine h _ _ _ ex B1 H1 g w _ fun v B2 H2 g2 r w2 => ?_
  have h2 : EvA (fun _ H Q => Q v H) σ B2 H2 (some x) := fun z ez B3 H3 g3 Q q => by cases ez; exact q v B3 H3 (Go.refl g3.bh) (r.kp (Kp.of g3.b))
  exact ei_rng1 h2 xs (by simpa using e) B2 H2 (At.refl g2.bh) R fun J B3 H3 g3 wk => q J B3 H3 (g2.trans (.of g3)) wk (w2.go g3)
theorem eis_rng2 {F : SM (List U)} (h : EvAS M ps σ B tl F) : EvIS M ps σ B (iRng2 tl) (rngS rng2 F) := fun us xs us' e B1 H1 g w R q => by
  obtain ⟨x, us1, ex, e⟩ := bindS_some e
  obtain ⟨ee, rfl⟩ := pureS_some e; clear e; have e := ee; clear ee
  refine h _ _ _ ex B1 H1 g w _ fun v B2 H2 g2 r w2 => ?_
  have h2 : EvA (fun _ H Q => Q v H) σ B2 H2 (some x) := fun z ez B3 H3 g3 Q q => by cases ez; exact q v B3 H3 (Go.refl g3.bh) (r.kp (Kp.of g3.b))
  exact ei_rng2 h2 xs (by simpa using e) B2 H2 (At.refl g2.bh) R fun J B3 H3 g3 wk => q J B3 H3 (g2.trans (.of g3)) wk (w2.go g3)
end
end Dn
set_option Elab.async false
set_option linter.all false
set_option maxRecDepth 100000
set_option maxHeartbeats 2000000
namespace Dn
open PySem L2
variable [CTab]
/-! ### data without locked things in it -/
mutual
def U.pl : U → Bool
  | .non => true
  | .bl _ => true
  | .int _ => true
  | .str _ => true
  | .tup xs => U.pls xs
  | .lst xs => U.pls xs
  | _ => false
def U.pls : List U → Bool
  | [] => true
  | x :: xs => U.pl x && U.pls xs
end
section
variable {B B' : Hp} {p : Addr} {od : Obj} {u0 : HO}
mutual
theorem Rp.erase (hp : B p = some (.frz od u0)) (s : ∀ a o, B a = some o → a ≠ p → B' a = some o) : ∀ {u : U} {v : V}, Rp B u v → u.pl = true → Rp B' u v
  | _, _, .non, _ => .non
  | _, _, .bl b, _ => .bl b
  | _, _, .int i, _ => .int i
  | _, _, .str x, _ => .str x
  | _, _, @Rp.tup _ _ a _ _ h r, e => .tup (s _ _ h (fun z => by rw [z, hp] at h; cases h)) (Rps.erase hp s r (by simpa [U.pl] using e))
  | _, _, @Rp.lst _ _ a _ _ h r, e => .lst (s _ _ h (fun z => by rw [z, hp] at h; cases h)) (Rps.erase hp s r (by simpa [U.pl] using e))
  | _, _, .frl _ _, e => absurd e (by simp [U.pl])
  | _, _, .dic _ _, e => absurd e (by simp [U.pl])
  | _, _, .dit _ _, e => absurd e (by simp [U.pl])
  | _, _, .obj _ _ _, e => absurd e (by simp [U.pl])
theorem Rps.erase (hp : B p = some (.frz od u0)) (s : ∀ a o, B a = some o → a ≠ p → B' a = some o) : ∀ {u : List U} {v : List V}, Rps B u v → U.pls u = true → Rps B' u v
  | _, _, .nil, _ => .nil
  | _, _, .cons h r, e => by
    rw [U.pls, Bool.and_eq_true] at e
    exact .cons (Rp.erase hp s h e.1) (Rps.erase hp s r e.2)
end
end
def eraseB (B : Hp) (p : Addr) : Hp := fun a => if a = p then none else B a
theorem erase_same {B : Hp} {p : Addr} : eraseB B p p = none := by simp [eraseB]
theorem erase_ne {B : Hp} {p a : Addr} (h : a ≠ p) : eraseB B p a = B a := by simp [eraseB, h]
/-- what the heap has of one's own -/
theorem OwnAt.lock {B H : Hp} {p : Addr} {u : U} (h : OwnAt B H p u) : ∃ o, H p = some o ∧ Mut (some o) ∧ ∀ od, Rp (upd B p (.frz od o)) u (.ref p) ∨ B p ≠ none := by
  cases u with
  | frl xs =>
    obtain ⟨vs, e, r⟩ := h
    refine ⟨_, e, trivial, fun od => ?_⟩
    cases hb : B p with
    | none => exact .inl (.frl upd_same (r.kp (Kp.of fun b o h => by rw [upd_ne (ne_of_none h hb)]; exact h)))
    | some _ => exact .inr (by simp)
  | dic xs =>
    obtain ⟨vs, e, r⟩ := h
    refine ⟨_, e, trivial, fun od => ?_⟩
    cases hb : B p with
    | none => exact .inl (.dic upd_same (r.kp (Kp.of fun b o h => by rw [upd_ne (ne_of_none h hb)]; exact h)))
    | some _ => exact .inr (by simp)
  | dit xs =>
    obtain ⟨vs, e, r⟩ := h
    refine ⟨_, e, trivial, fun od => ?_⟩
    cases hb : B p with
    | none => exact .inl (.dit upd_same (r.kp (Kp.of fun b o h => by rw [upd_ne (ne_of_none h hb)]; exact h)))
    | some _ => exact .inr (by simp)
  | _ => exact h.elim
theorem same_lock {B : Hp} {p : Addr} {o : HO} (hb : B p = none) : Same B (upd B p o) := fun b u h => by rw [upd_ne (ne_of_none h hb)]; exact h
/-- a look at one's own object, which is locked the while -/
def lockO (j : Nat) (o : U → Option U) : SM U := fun us => us[j]?.bind fun u => if u.own = true then (o u).bind fun z => if z.pl = true then some (z, us) else none else none
def lockT (j : Nat) (o : U → Option Bool) : SM Bool := fun us => us[j]?.bind fun u => if u.own = true then (o u).map fun z => (z, us) else none
section
variable {M : Addr → Prop} {ps : List Addr} {σ : St} {B H : Hp} {ta tb tc te : TE} {t : TT} {tl tr : TA} {F G : SM U} {K : PySem.W.Frag} {j : Nat} {p : Addr}
theorem es_lockO {o : U → Option U} (hp : ps[j]? = some p) (h : ∀ u B' H', Same B B' → Rp B' u (.ref p) → EvO te σ B' H' (o u)) : EvS M ps σ B (tLockE te) (lockO j o) := fun us z us' e B1 H1 g w Q q => by
  obtain ⟨u, eu, e⟩ := bind_some e
  split at e
  · rename_i ho
    obtain ⟨z1, ez, e⟩ := bind_some e
    split at e
    · rename_i hz
      cases e
      obtain ⟨hb, ow⟩ := (w.at_ j p u hp eu).own ho
      obtain ⟨o1, e1, mu, hl⟩ := ow.lock
      refine ⟨p, o1, e1, mu, fun od => ?_⟩
      have r1 : Rp (upd B1 p (.frz od o1)) u (.ref p) := (hl od).resolve_right (fun z => z hb)
      have s1 : Same (upd B1 p (.frz od o1)) (upd H1 p (.frz od o1)) := fun b x hx => by
        by_cases hbp : b = p
        · subst hbp; rw [upd_same] at hx ⊢; exact hx
        · rw [upd_ne hbp] at hx ⊢; exact g.bh b x hx
      refine h u _ (upd H1 p (.frz od o1)) (g.b.trans (same_lock hb)) r1 z ez _ _ (At.refl s1) _ fun v B2 H2 g2 r2 => ?_
      have eB : B2 p = some (.frz od o1) := g2.b _ _ upd_same
      have eH : H2 p = some (.frz od o1) := g2.bh _ _ eB
      have gg : Go B1 H1 (eraseB B2 p) (upd H2 p o1) := by
        refine ⟨fun a x hx => ?_, fun a x hx => ?_, fun a x hx => ?_, fun a x hx => ?_⟩
        · by_cases ha : a = p
          · subst ha; rw [upd_same, ← e1]; exact hx
          · rw [upd_ne ha]; exact g2.h a x (by rw [upd_ne ha]; exact hx)
        · have ha : a ≠ p := ne_of_none hx hb
          rw [erase_ne ha]; exact g2.b a x (by rw [upd_ne ha]; exact hx)
        · by_cases ha : a = p
          · subst ha; rw [erase_same] at hx; cases hx
          · rw [erase_ne ha] at hx; rw [upd_ne ha]; exact g2.bh a x hx
        · by_cases ha : a = p
          · subst ha; rw [erase_same] at hx; cases hx
          · rw [erase_ne ha] at hx
            rcases g2.fr a x hx with z | z
            · rw [upd_ne ha] at z; exact .inl z
            · rw [upd_ne ha] at z; exact .inr z
      exact ⟨eH, q v _ _ (.of gg) (r2.erase eB (fun a x hx ha => by rw [erase_ne ha]; exact hx) hz) (w.go gg)⟩
    · cases e
  · cases e
/-- the var of one's own list: kept for good from here on -/
def takeS (j : Nat) : SM U := fun us => match us[j]? with
  | some (.frl xs) => some (.lst xs, us.set j .non)
  | _ => none
theorem es_take {i : Nat} (hp : ps[j]? = some p) (hv : σ[i]? = some (some (.ref p))) : EvS M ps σ B (tVar i) (takeS j) := fun us z us' e B1 H1 g w Q q => by
  unfold takeS at e
  split at e
  · rename_i xs eu
    cases e
    have wp := w.at_ j p _ hp eu
    obtain ⟨hb, vs, e1, r⟩ := wp.own rfl
    have s1 : Same B1 (upd B1 p (.lst vs)) := same_lock hb
    have sb : Same (upd B1 p (.lst vs)) H1 := fun b x hx => by
      by_cases hbp : b = p
      · subst hbp; rw [upd_same] at hx; rw [e1]; exact hx
      · rw [upd_ne hbp] at hx; exact g.bh b x hx
    refine ⟨_, hv, q _ (upd B1 p (.lst vs)) H1 ⟨fun a o e _ => e, fun a e => e, s1, sb, fun a o e => ?_⟩ (.lst upd_same (r.kp (Kp.of s1))) ?_⟩
    · by_cases ha : a = p
      · subst ha; exact .inr (.inr (List.mem_of_getElem? hp))
      · rw [upd_ne ha] at e; exact .inl e
    · exact w.set hp (fun q _ _ o e => e) s1 (fun q _ hq hn => by rw [upd_ne hq]; exact hn) ⟨wp.m, ⟨_, e1⟩, .inl rfl⟩
  · cases e
/-- x.append(e) -/
def appS (j : Nat) (y : U) : SM U := fun us => match us[j]? with
  | some (.frl xs) => if xs.length < lim then some (.non, us.set j (.frl (xs ++ [y]))) else none
  | _ => none
theorem own_upd {us : List U} {B2 H2 : Hp} {u : U} {o : HO} (hp : ps[j]? = some p) (w : Ows M B2 H2 ps us) (s : Same B2 H2) (wp : M p) (hb : B2 p = none) (hn : OwnAt B2 (upd H2 p o) p u) : Ows M B2 (upd H2 p o) ps (us.set j u) :=
  w.set hp (fun q _ hq o e => by rw [upd_ne hq]; exact e) (Same.refl _) (fun q _ _ hn => hn) ⟨wp, ⟨_, upd_same⟩, .inr ⟨hb, hn⟩⟩
theorem gs_upd {B2 H2 : Hp} {o : HO} (hp : ps[j]? = some p) (s : Same B2 H2) (hb : B2 p = none) : Gs (inP ps) B2 H2 B2 (upd H2 p o) :=
  ⟨fun a x e hm => by rw [upd_ne (fun z => hm (by rw [z]; exact List.mem_of_getElem? hp))]; exact e, fun a e => by
      by_cases ha : a = p
      · subst ha; rw [upd_same] at e; cases e
      · rw [upd_ne ha] at e; exact e, Same.refl _, same_upd s hb, fun a x e => .inl e⟩
theorem es_app {i : Nat} (hp : ps[j]? = some p) (hv : σ[i]? = some (some (.ref p))) (h : EvS M ps σ B te F) (hl : ∀ us y us', F us = some (y, us') → ∀ xs, us'[j]? = some (.frl xs) → ∃ ys, us[j]? = some (.frl ys)) :
    EvS M ps σ B (tBM K "list" rAppend (tVar i) (tCons te tNil)) (bindS F fun y => appS j y) := fun us z us' e B1 H1 g w Q q => by
  obtain ⟨y, us1, ey, e⟩ := bindS_some e
  unfold appS at e
  split at e
  · rename_i xs eu
    split at e
    · rename_i hlim
      cases e
      obtain ⟨ys, eys⟩ := hl _ _ _ ey xs eu
      obtain ⟨_, vs0, e0, _⟩ := (w.at_ j p _ hp eys).own rfl
      refine ⟨_, hv, .inl ⟨rfl, vs0, SqL.of e0⟩, h _ _ _ ey B1 H1 g w _ fun v B2 H2 g2 r2 w2 => ?_⟩
      have wp := w2.at_ j p _ hp eu
      obtain ⟨hb, vs, e1, r⟩ := wp.own rfl
      exact ⟨p, vs, v, rfl, rfl, e1, lim_lt (by rw [r.length]; exact Nat.le_of_lt hlim), q _ B2 _ (g2.trans (gs_upd hp g2.bh hb)) .non (own_upd hp w2 g2.bh wp.m hb ⟨_, upd_same, r.append (.one r2)⟩)⟩
    · cases e
  · cases e
/-- x.pop(e) -/
def popS (j : Nat) (y : U) : SM U := fun us => match us[j]?, y with
  | some (.frl xs), .int i => if -(2 ^ 63) ≤ i ∧ i < 2 ^ 63 then (seqIndex? i xs.length).bind fun k => xs[k]?.map fun z => (z, us.set j (.frl (xs.eraseIdx k))) else none
  | _, _ => none
theorem Rps.eraseIdx {B : Hp} : ∀ {xs : List U} {vs : List V} (k : Nat), Rps B xs vs → Rps B (xs.eraseIdx k) (vs.eraseIdx k)
  | _, _, _, .nil => .nil
  | _, _, 0, .cons _ t => t
  | _, _, k + 1, .cons h t => .cons h (Rps.eraseIdx k t)
theorem es_pop {i : Nat} (hp : ps[j]? = some p) (hv : σ[i]? = some (some (.ref p))) (h : EvS M ps σ B te F) (hl : ∀ us y us', F us = some (y, us') → ∀ xs, us'[j]? = some (.frl xs) → ∃ ys, us[j]? = some (.frl ys)) :
    EvS M ps σ B (tBM K "list" rPopAt (tVar i) (tCons te tNil)) (bindS F fun y => popS j y) := fun us z us' e B1 H1 g w Q q => by
  obtain ⟨y, us1, ey, e⟩ := bindS_some e
  unfold popS at e
  split at e
  · rename_i xs n eu
    split at e
    · rename_i hlim
      obtain ⟨k, ek, e⟩ := bind_some e
      obtain ⟨z1, ez, e⟩ := map_some e
      cases e
      obtain ⟨ys, eys⟩ := hl _ _ _ ey xs eu
      obtain ⟨_, vs0, e0, _⟩ := (w.at_ j p _ hp eys).own rfl
      refine ⟨_, hv, .inl ⟨rfl, vs0, SqL.of e0⟩, h _ _ _ ey B1 H1 g w _ fun v B2 H2 g2 r2 w2 => ?_⟩
      have wp := w2.at_ j p _ hp eu
      obtain ⟨hb, vs, e1, r⟩ := wp.own rfl
      cases r2
      obtain ⟨v1, ev1, rv1⟩ := r.get ez
      exact ⟨p, vs, n, k, v1, rfl, rfl, e1, hlim.1, hlim.2, by rw [r.length]; exact ek, ev1, q _ B2 _ (g2.trans (gs_upd hp g2.bh hb)) rv1 (own_upd hp w2 g2.bh wp.m hb ⟨_, upd_same, r.eraseIdx k⟩)⟩
    · cases e
  · cases e
/-- a state that keeps a list a list -/
def Lk (j : Nat) (F : SM U) : Prop := ∀ us y us', F us = some (y, us') → ∀ xs, us'[j]? = some (.frl xs) → ∃ ys, us[j]? = some (.frl ys)
theorem lk_of {o : Option U} : Lk j (pureS o) := fun us y us' e xs ex => by
  obtain ⟨_, rfl⟩ := pureS_some e
  exact ⟨xs, ex⟩
/-! ### new objects -/
theorem OwnAt.new {B H : Hp} {xs : List U} {vs : List V} (r : Rps B xs vs) {p : Addr} : OwnAt B (upd H p (.lst vs)) p (.frl xs) := ⟨vs, upd_same, r⟩
def nlstS (F : SM (List U)) : SM U := bindS F fun xs => pureS (if xs.length ≤ lim then some (.frl xs) else none)
theorem en_lst {F : SM (List U)} (h : EvAS M ps σ B tl F) : EvN M ps σ B (tLst tl) (nlstS F) := fun us z us' e B1 H1 g w Q q => by
  obtain ⟨x, us1, ex, e⟩ := bindS_some e
  obtain ⟨ee, rfl⟩ := pureS_some e; clear e; have e := ee; clear ee
  split at e
  · rename_i hl
    cases e
    exact h _ _ _ ex B1 H1 g w _ fun vs B2 H2 g2 r w2 => ⟨by rw [r.length]; exact lim_size hl, fun p hp => q p B2 _ (g2.trans (.of (Go.own g2.bh hp))) (g2.n p hp) (g2.bh.free hp) (OwnAt.new r) (w2.go (Go.own g2.bh hp))⟩
  · cases e
theorem en_dnewK : EvN M ps σ B tDNewK (pureS (some (.dic []))) := fun us z us' e B1 H1 g w Q q => by
  obtain ⟨ee, rfl⟩ := pureS_some e; clear e; have e := ee; clear ee
  cases e
  exact fun p hp => q p B1 _ (.of (Go.own g.bh hp)) hp (g.bh.free hp) ⟨[], upd_same, .nil⟩ (w.go (Go.own g.bh hp))
theorem en_dnewT : EvN M ps σ B tDNewT (pureS (some (.dit []))) := fun us z us' e B1 H1 g w Q q => by
  obtain ⟨ee, rfl⟩ := pureS_some e; clear e; have e := ee; clear ee
  cases e
  exact fun p hp => q p B1 _ (.of (Go.own g.bh hp)) hp (g.bh.free hp) ⟨[], upd_same, .nil⟩ (w.go (Go.own g.bh hp))
/-- a + b of lists, new -/
def catN (x y : U) : Option U := match x, y with
  | .lst xs, .lst ys => if xs.length + ys.length ≤ lim then some (.frl (xs ++ ys)) else none
  | _, _ => none
def ncatS (F G : SM U) : SM U := bindS F fun x => bindS G fun y => pureS (catN x y)
theorem en_cat (ha : EvS M ps σ B ta F) (hb : EvS M ps σ B tb G) : EvN M ps σ B (tOp (rAddU K) ta tb) (ncatS F G) := fun us z us' e B1 H1 g w Q q => by
  obtain ⟨x, us1, ex, e⟩ := bindS_some e
  obtain ⟨y, us2, ey, e⟩ := bindS_some e
  obtain ⟨ee, rfl⟩ := pureS_some e; clear e; have e := ee; clear ee
  refine ha _ _ _ ex B1 H1 g w _ fun v B2 H2 g2 r2 w2 => hb _ _ _ ey B2 H2 (g.trs g2) w2 _ fun v' B3 H3 g3 r3 w3 => ?_
  have r2 := r2.upA g3.at
  unfold catN at e
  split at e
  · rename_i xs ys
    split at e
    · rename_i hl
      cases e
      cases r2 with
      | @lst a _ vs h1 r1 =>
        cases r3 with
        | @lst b _ ws h2 r2 =>
          exact .inr (.inr (.inl ⟨a, b, vs, ws, rfl, rfl, g3.bh _ _ h1, g3.bh _ _ h2, by rw [r1.length, r2.length]; exact lim_size hl, fun p hp => q p B3 _ ((g2.trans g3).trans (.of (Go.own g3.bh hp))) ((g2.trans g3).n p hp) (g3.bh.free hp) (OwnAt.new (r1.append r2)) (w3.go (Go.own g3.bh hp))⟩))
    · cases e
  · cases e
/-- a def that gives a new object -/
def spN (m : List U → Option U) : Sp := fun vs H Q _ => ∃ B xs u, Same B H ∧ Rps B xs vs ∧ m xs = some u ∧ ∀ p B2 H2, Go B H B2 H2 → H p = none → B2 p = none → OwnAt B2 H2 p u → Q (.ref p) H2
theorem en_call {m : List U → Option U} {E : XK} {F : SM (List U)} (ha : EvAS M ps σ B tl F) : EvN M ps σ B (tCall (spN m) [] E tl) (callS m F) := fun us z us' e B1 H1 g w Q q => by
  obtain ⟨x, us1, ex, e⟩ := bindS_some e
  obtain ⟨ee, rfl⟩ := pureS_some e; clear e; have e := ee; clear ee
  refine ha _ _ _ ex B1 H1 g w _ fun vs B2 H2 g2 r w2 => ?_
  show spN m (vs ++ []) H2 Q E
  rw [List.append_nil]
  exact ⟨B2, x, z, g2.bh, r, e, fun p B3 H3 g3 n3 b3 o3 => q p B3 H3 (g2.trans (.of g3)) (g2.n p n3) b3 o3 (w2.go g3)⟩
/-! ### a def that changes its first argument -/
def spS (m : U → List U → Option (U × U)) : Sp := fun vs H Q _ => ∃ B p ws u xs r u', Same B H ∧ vs = .ref p :: ws ∧ B p = none ∧ OwnAt B H p u ∧ Rps B xs ws ∧ m u xs = some (r, u') ∧
  ∀ v B2 H2, Gs (fun a => a = p) B H B2 H2 → B2 p = none → OwnAt B2 H2 p u' → Rp B2 r v → Q v H2
def callM (j : Nat) (m : U → List U → Option (U × U)) (xs : List U) : SM U := fun us => us[j]?.bind fun u => if u.own = true then (m u xs).map fun r => (r.1, us.set j r.2) else none
theorem es_callM {i : Nat} {m : U → List U → Option (U × U)} {E : XK} {F : SM (List U)} (hp : ps[j]? = some p) (hv : σ[i]? = some (some (.ref p))) (ha : EvAS M ps σ B tl F) :
    EvS M ps σ B (tCall (spS m) [] E (tCons (tVar i) tl)) (bindS F fun xs => callM j m xs) := fun us z us' e B1 H1 g w Q q => by
  obtain ⟨x, us1, ex, e⟩ := bindS_some e
  obtain ⟨u, eu, e⟩ := bind_some e
  split at e
  · rename_i ho
    obtain ⟨⟨r, u'⟩, er, e⟩ := map_some e
    cases e
    refine ⟨_, hv, ha _ _ _ ex B1 H1 g w _ fun vs B2 H2 g2 rr w2 => ?_⟩
    have wp := w2.at_ j p u hp eu
    obtain ⟨hb, ow⟩ := wp.own ho
    show spS m ((.ref p :: vs) ++ []) H2 Q E
    rw [List.append_nil]
    refine ⟨B2, p, vs, u, x, r, u', g2.bh, rfl, hb, ow, rr, er, fun v B3 H3 g3 b3 o3 r3 => ?_⟩
    refine q v B3 H3 (g2.trans (g3.mono fun a ha => by subst ha; exact List.mem_of_getElem? hp)) r3 ?_
    refine w2.set hp (fun q hq hne o e => g3.h q o e hne) g3.b (fun q hq hne hn => ?_) ⟨wp.m, o3.ex, .inr ⟨b3, o3⟩⟩
    obtain ⟨o, eo⟩ := w2.exs hq
    exact g3.noB hn eo hne
  · cases e
/-- .. called with a new object, which is not kept -/
def callF (m : U → List U → Option (U × U)) (F : SM U) (G : SM (List U)) : SM U := bindS F fun u => bindS G fun xs => pureS ((m u xs).map Prod.fst)
theorem es_callF {m : U → List U → Option (U × U)} {E : XK} {o : Option (List U)} (hn : EvN M ps σ B te F) (ha : EvA tl σ B H o) : EvS M ps σ B (tCall (spS m) [] E (tCons te tl)) (callF m F (pureS o)) := fun us z us' e B1 H1 g w Q q => by
  obtain ⟨u, us1, eu, e⟩ := bindS_some e
  obtain ⟨xs, us2, ex, e⟩ := bindS_some e
  obtain ⟨ee, rfl⟩ := pureS_some e; clear e
  obtain ⟨ex', rfl⟩ := pureS_some ex
  obtain ⟨⟨r, u'⟩, er, e⟩ := map_some ee
  cases e
  refine hn _ _ _ eu B1 H1 g w _ fun p B2 H2 g2 n2 b2 o2 w2 => ha xs ex' B2 H2 (g.trs g2) _ fun vs B3 H3 g3 r3 => ?_
  obtain ⟨ob, eb⟩ := o2.ex
  show spS m ((.ref p :: vs) ++ []) H3 Q E
  rw [List.append_nil]
  have o3 : OwnAt B3 H3 p u := o2.up (fun o e => g3.h p o e) g3.b
  refine ⟨B3, p, vs, u, xs, r, u', g3.bh, rfl, g3.noB b2 eb, o3, r3, er, fun v B4 H4 g4 b4 o4 r4 => ?_⟩
  have w3 := w2.go g3
  have hnp : p ∉ ps := w.fresh n2
  have g14 : Gs (inP ps) B1 H1 B4 H4 := by
    have g13 := g2.trans (.of g3)
    refine ⟨fun a o e hm => g4.h a o (g13.h a o e hm) (fun z => by subst z; rw [n2] at e; cases e), fun a e => g13.n a (g4.n a e), g13.b.trans g4.b, g4.bh, fun a o e => ?_⟩
    rcases g4.fr a o e with e | e | e
    · exact g13.fr a o e
    · exact .inr (.inl (g13.n a e))
    · subst e; exact .inr (.inl n2)
  refine q v B4 H4 g14 r4 (w3.keep (fun a ha o e => g4.h a o e fun z => hnp (z ▸ ha)) g4.b fun a ha hb => ?_)
  obtain ⟨o, eo⟩ := w3.exs ha
  exact g4.noB hb eo fun z => hnp (z ▸ ha)
end
end Dn
set_option Elab.async false
set_option linter.all false
set_option maxRecDepth 100000
set_option maxHeartbeats 2000000
namespace Dn
open PySem L2
variable [CTab]
theorem mem_ne {ps : List Addr} {a p : Addr} (ha : a ∈ ps) (hn : p ∉ ps) : a ≠ p := fun z => hn (by rw [← z]; exact ha)
/-! ### a new list kept for good -/
def keepN (F : SM U) : SM U := bindS F fun u => match u with
  | .frl xs => pureS (some (.lst xs))
  | _ => pureS none
/-! ### comprehensions with a state -/
def lcSL (p : U → SM Bool) (f : U → SM U) : List U → SM (List U)
  | [] => pureS (some [])
  | x :: r => bindS (p x) fun b => if b = true then bindS (f x) fun y => bindS (lcSL p f r) fun z => pureS (some (y :: z)) else lcSL p f r
def lcS (p : U → SM Bool) (f : U → SM U) (F : SM (List U)) : SM U := bindS F fun xs => if xs.length ≤ lim then bindS (lcSL p f xs) fun zs => pureS (some (.frl zs)) else pureS none
def lcS2 (p : U → U → SM Bool) (f : U → U → SM U) (F : SM (List U)) : SM U :=
  lcS (fun u us => (unp2 u).bind fun ab => p ab.1 ab.2 us) (fun u us => (unp2 u).bind fun ab => f ab.1 ab.2 us) F
section
variable {M : Addr → Prop} {ps : List Addr} {σ : St} {B H : Hp} {ta tb tc te : TE} {t : TT} {tl tr : TA} {F G : SM U} {K : PySem.W.Frag} {j : Nat} {p : Addr}
theorem es_ofN (h : EvN M ps σ B te F) : EvS M ps σ B te (keepN F) := fun us z us' e B1 H1 g w Q q => by
  obtain ⟨u, us1, eu, e⟩ := bindS_some e
  split at e
  · rename_i xs
    obtain ⟨ee, rfl⟩ := pureS_some e; clear e; have e := ee; clear ee
    cases e
    refine h _ _ _ eu B1 H1 g w Q fun p B2 H2 g2 n2 b2 o2 w2 => ?_
    obtain ⟨vs, e1, r⟩ := o2
    have s1 : Same B2 (upd B2 p (.lst vs)) := same_lock b2
    have sb : Same (upd B2 p (.lst vs)) H2 := fun b x hx => by
      by_cases hbp : b = p
      · subst hbp; rw [upd_same] at hx; rw [e1]; exact hx
      · rw [upd_ne hbp] at hx; exact g2.bh b x hx
    have hnp : p ∉ ps := w.fresh n2
    refine q _ (upd B2 p (.lst vs)) H2 ⟨g2.h, g2.n, g2.b.trans s1, sb, fun a o e => ?_⟩ (.lst upd_same (r.kp (Kp.of s1))) (w2.keep (fun a _ o e => e) s1 fun a ha hb => by rw [upd_ne (mem_ne ha hnp)]; exact hb)
    by_cases ha : a = p
    · subst ha; exact .inr (.inl n2)
    · rw [upd_ne ha] at e; exact g2.fr a o e
  · obtain ⟨ee, rfl⟩ := pureS_some e
    cases ee
theorem en_lcG {wi : TI} {g : TG} {tt : TT} {te : TE} {vs : List Nat} {F : SM (List U)} {p : U → SM Bool} {f : U → SM U} (hi : EvIS M ps σ B wi F)
    (hg : ∀ u v B1 H1 us (Q : St → Hp → Prop) b us', At B B1 H1 → Rp B1 u v → p u us = some (b, us') → (∀ σ2 (c : SM Bool) (d : SM U), wipe σ2 vs = wipe σ vs → c us = some (b, us') → (b = true → d us' = f u us') → EvTS M ps σ2 B1 tt c → EvS M ps σ2 B1 te d → Q σ2 H1) → g v (wipe σ vs) H1 Q) :
    EvN M ps σ B (tLc wi g tt te vs) (lcS p f F) := fun us z us' e B0 H0 g0 w0 Q q => by
  obtain ⟨xs, us1, exs, e⟩ := bindS_some e
  split at e
  · rename_i hlim
    obtain ⟨zs, us2, ezs, e⟩ := bindS_some e
    obtain ⟨ee, rfl⟩ := pureS_some e; clear e; have e := ee; clear ee
    cases e
    refine hi _ _ _ exs B0 H0 g0 w0 _ fun J B2 H2 g2 w w2 => fun D hD => ?_
    have hnD : D ∉ ps := w2.fresh hD
    have w' : Walk J xs.length (fun H' => Same B2 H') (J.yld) := ⟨w.goes, w.stops, fun _ _ _ _ _ _ y => y⟩
    refine lc_it w' (fun i H' => ∃ Bi acc ys usi, Gs (inP ps) B2 H2 Bi H' ∧ Bi D = none ∧ H' D = some (.lst acc) ∧ Rps Bi ys acc ∧ Ows M Bi H' ps usi ∧ (lcSL p f (xs.drop i) usi).map (fun r => (ys ++ r.1, r.2)) = some (zs, us') ∧ ys.length ≤ i) ?_ ?_ ?_ ?_
    · exact ⟨B2, [], [], us1, .of (Go.own g2.bh hD), g2.bh.free hD, upd_same, .nil, w2.go (Go.own g2.bh hD), by simp [ezs], Nat.le_refl _⟩
    · rintro i H' _ ⟨Bi, _, _, _, gi, _⟩
      exact gi.b.trans gi.bh
    · rintro i x H' H'' hin ⟨Bi, acc, ys, usi, gi, hBD, hHD, ra, wi', hr, hy⟩ y
      obtain ⟨B', u, g', eu, ru⟩ := w.yields i H' x H'' Bi hin gi.b gi.bh y
      rw [drop_at eu] at hr
      obtain ⟨⟨rr, usr⟩, err, hr⟩ := map_some hr
      obtain ⟨b, usb, eb, err⟩ := bindS_some err
      have w'' := wi'.go g'
      have gg : At B B' H'' := (g0.trs g2).tr (gi.at.trans g')
      refine hg u x B' H'' usi _ b usb gg ru eb fun σ2 c d hw hc hd ht hte => ⟨hw, ?_⟩
      refine ht _ _ _ hc B' H'' (At.refl gg.bh) w'' _ fun B3 H3 g3 w3 => ?_
      have hB'D : B' D = none := g'.noB hBD hHD
      have hH''D : H'' D = some (.lst acc) := g'.h _ _ hHD
      have hB3 : B3 D = none := g3.noB hB'D hH''D hnD
      have hH3 : H3 D = some (.lst acc) := g3.h _ _ hH''D hnD
      have gi3 := (gi.trans (.of g')).trans g3
      cases b with
      | true =>
        rw [if_pos rfl] at err
        obtain ⟨yv, usy, ey, err⟩ := bindS_some err
        obtain ⟨r2, usz, er2, err⟩ := bindS_some err
        obtain ⟨ee, rfl⟩ := pureS_some err
        cases ee
        refine hte _ _ _ ((hd rfl).trans ey) B3 H3 g3.at w3 _ fun v4 B4 H4 g4 r4 w4 => ?_
        have hB4 : B4 D = none := g4.noB hB3 hH3 hnD
        have hH4 : H4 D = some (.lst acc) := g4.h _ _ hH3 hnD
        have gm : Gs (inP ps) B2 H2 B4 (upd H4 D (.lst (acc ++ [v4]))) := by
          have gi4 := gi3.trans g4
          refine ⟨fun a o e hm => ?_, fun a e => ?_, gi4.b, same_upd gi4.bh hB4, gi4.fr⟩
          · rw [upd_ne (ne_of_none e hD)]; exact gi4.h a o e hm
          · by_cases ha : a = D
            · subst ha; rw [upd_same] at e; cases e
            · rw [upd_ne ha] at e; exact gi4.n a e
        refine ⟨acc, hH4, lim_lt (by have := ra.length; omega), B4, acc ++ [v4], ys ++ [yv], usy, gm, hB4, upd_same, ((((ra.up g').kp (Kp.of g3.b)).kp (Kp.of g4.b)).append (.one r4)), ?_, ?_, ?_⟩
        · exact w4.keep (fun a ha o e => by rw [upd_ne (mem_ne ha hnD)]; exact e) (Same.refl _) fun a _ hb => hb
        · rw [er2]
          simp only [Option.map_some]
          rw [← hr]
          simp
        · rw [List.length_append, List.length_singleton]; omega
      | false =>
        refine ⟨B3, acc, ys, usb, gi3, hB3, hH3, (ra.up g').kp (Kp.of g3.b), w3, ?_, by omega⟩
        rw [if_neg (by decide)] at err
        rw [err]
        exact congrArg some hr
    · rintro H' ⟨Bi, acc, ys, usi, gi, hBD, hHD, ra, wi', hr, _⟩
      rw [List.drop_length] at hr
      obtain ⟨⟨r1, r2⟩, er, hr⟩ := map_some hr
      obtain ⟨ee, rfl⟩ := pureS_some er
      cases ee
      have e1 : ys = zs := by
        have := congrArg Prod.fst hr
        simpa using this
      have e2 : r2 = us' := congrArg Prod.snd hr
      subst e1 e2
      exact q D Bi H' (g2.trans gi) (g2.n D hD) hBD ⟨acc, hHD, ra⟩ wi'
  · obtain ⟨ee, rfl⟩ := pureS_some e
    cases ee
/-- one name -/
theorem en_lc {wi : TI} {tt : TT} {te : TE} {vs : List Nat} {jj : Nat} {F : SM (List U)} {p : U → SM Bool} {f : U → SM U} (hi : EvIS M ps σ B wi F) (hw : ∀ x, wipe ((wipe σ vs).set jj (some x)) vs = wipe σ vs)
    (hp : ∀ u v B1 H1, At B B1 H1 → Rp B1 u v → EvTS M ps ((wipe σ vs).set jj (some v)) B1 tt (p u)) (hf : ∀ u v B1 H1, At B B1 H1 → Rp B1 u v → EvS M ps ((wipe σ vs).set jj (some v)) B1 te (f u)) :
    EvN M ps σ B (tLc wi (gName jj) tt te vs) (lcS p f F) :=
  en_lcG hi fun u v B1 H1 us Q b us' g r eb k => k _ (p u) (f u) (hw v) eb (fun _ => rfl) (hp u v B1 H1 g r) (hf u v B1 H1 g r)
/-- two names -/
theorem en_lc2n {wi : TI} {tt : TT} {te : TE} {vs : List Nat} {j1 j2 : Nat} {F : SM (List U)} {p : U → U → SM Bool} {f : U → U → SM U} (hi : EvIS M ps σ B wi F) (hw : ∀ x y, wipe (((wipe σ vs).set j1 (some x)).set j2 (some y)) vs = wipe σ vs)
    (hp : ∀ a b v w B1 H1, At B B1 H1 → Rp B1 a v → Rp B1 b w → EvTS M ps (((wipe σ vs).set j1 (some v)).set j2 (some w)) B1 tt (p a b)) (hf : ∀ a b v w B1 H1, At B B1 H1 → Rp B1 a v → Rp B1 b w → EvS M ps (((wipe σ vs).set j1 (some v)).set j2 (some w)) B1 te (f a b)) :
    EvN M ps σ B (tLc wi (gTup K 2 (gCons (gName j1) (gCons (gName j2) gNil))) tt te vs) (lcS2 p f F) :=
  en_lcG hi fun u v B1 H1 us Q b us' g r eb k => by
    obtain ⟨⟨x, y⟩, eu, eb⟩ := bind_some eb
    refine g_two g.bh r eu fun a' b' ra rb => k _ (p x y) (f x y) (hw a' b') eb (fun _ => ?_) (hp x y a' b' B1 H1 g ra rb) (hf x y a' b' B1 H1 g ra rb)
    rw [eu]
    rfl
end
/-! ### statements -/
structure Bs where
  P : Addr → Prop
  hd : Option Addr
  B : Hp
  H : Hp
def Bs.M (β : Bs) : Addr → Prop := fun a => β.P a ∨ β.H a = none
structure Wh (β : Bs) (B H : Hp) (ps : List Addr) (us : List U) : Prop where
  g : Gs β.P β.B β.H B H
  w : Ows β.M B H ps us
  hd : ∀ p, β.hd = some p → ps.head? = some p
section
variable {β : Bs} {B H B1 H1 : Hp} {ps : List Addr} {us us' : List U}
theorem Wh.s (W : Wh β B H ps us) : Same B H := W.g.bh
theorem Wh.at (W : Wh β B H ps us) : At B B H := At.refl W.g.bh
theorem Wh.step (W : Wh β B H ps us) (g : Gs (inP ps) B H B1 H1) (w : Ows β.M B1 H1 ps us') : Wh β B1 H1 ps us' := ⟨W.g.base g fun a ha => W.w.ms ha, w, W.hd⟩
theorem Wh.go (W : Wh β B H ps us) (g : Go B H B1 H1) : Wh β B1 H1 ps us := W.step (.of g) (W.w.go g)
theorem Wh.new (W : Wh β B H ps us) {p : Addr} {u : U} (g : Gs (inP ps) B H B1 H1) (w : Ows β.M B1 H1 ps us') (hn : H p = none) (hb : B1 p = none) (o : OwnAt B1 H1 p u) : Wh β B1 H1 (ps ++ [p]) (us' ++ [u]) :=
  ⟨(W.step g w).g, w.add (W.w.fresh hn) ⟨.inr (W.g.n p hn), o.ex, .inr ⟨hb, o⟩⟩, fun q hq => by
    have := W.hd q hq
    cases ps with
    | nil => cases this
    | cons a r => simpa using this⟩
theorem Wh.swap (W : Wh β B H ps us) {p : Addr} {u : U} {j : Nat} (hj : j < ps.length) (h0 : 0 < j ∨ β.hd = none) (g : Gs (inP ps) B H B1 H1) (w : Ows β.M B1 H1 ps us') (hn : H p = none) (hb : B1 p = none) (o : OwnAt B1 H1 p u) : Wh β B1 H1 (ps.set j p) (us'.set j u) :=
  ⟨(W.step g w).g, w.swap hj (W.w.fresh hn) ⟨.inr (W.g.n p hn), o.ex, .inr ⟨hb, o⟩⟩, fun q hq => by
    have e := W.hd q hq
    rcases h0 with h0 | h0
    · cases ps with
      | nil => cases e
      | cons a r =>
        cases j with
        | zero => omega
        | succ j => simpa using e
    · rw [h0] at hq; cases hq⟩
theorem Wh.take (W : Wh β B H ps us) (n : Nat) (h0 : 0 < n ∨ β.hd = none) : Wh β B H (ps.take n) (us.take n) := ⟨W.g, W.w.take n, fun q hq => by
    have e := W.hd q hq
    rcases h0 with h0 | h0
    · cases ps with
      | nil => cases e
      | cons a r =>
        cases n with
        | zero => omega
        | succ n => simpa using e
    · rw [h0] at hq; cases hq⟩
end
def addS {α : Type} (u : U) (G : SM α) : SM α := fun us => G (us ++ [u])
def swapS {α : Type} (j : Nat) (u : U) (G : SM α) : SM α := fun us => G (us.set j u)
def cutS' {α : Type} (n : Nat) (G : SM α) : SM α := fun us => G (us.take n)
def unpS {α : Type} (u : U) (k : U → U → SM α) : SM α := fun us => (unp2 u).bind fun ab => k ab.1 ab.2 us
def parS {α : Type} (xs : List U) (k : U → U → SM α) : SM α := match xs with
  | [x, y] => k x y
  | _ => pureS none
def setLS (j : Nat) (i y : U) : SM U := fun us => match us[j]?, i with
  | some (.frl xs), .int k => (ixN xs.length k).map fun n => (.non, us.set j (.frl (xs.set n y)))
  | _, _ => none
def putU {κ : Type} [DecidableEq κ] (kvs : List (κ × U)) (k : κ) (v : U) : List (κ × U) :=
  if (kvs.any fun kv => decide (kv.1 = k)) = true then kvs.map (fun kv => if kv.1 = k then (kv.1, v) else kv) else kvs ++ [(k, v)]
def putS (j : Nat) (k y : U) : SM U := fun us => match us[j]? with
  | some (.dic kvs) => k.key.bind fun kk => if kvs.length < lim then some (.non, us.set j (.dic (putU kvs kk y))) else none
  | some (.dit kvs) => match k with
    | .tup ys => (keysL ys).bind fun kk => if kvs.length < lim then some (.non, us.set j (.dit (putU kvs kk y))) else none
    | _ => none
  | _ => none
theorem Rps.set {B : Hp} {x : U} {v : V} (h : Rp B x v) : ∀ {xs : List U} {vs : List V} (n : Nat), Rps B xs vs → Rps B (xs.set n x) (vs.set n v)
  | _, _, _, .nil => .nil
  | _, _, 0, .cons _ t => .cons h t
  | _, _, n + 1, .cons h1 t => .cons h1 (Rps.set h n t)
section
variable {B : Hp} {x : U} {v : V}
theorem Rpk.any (k : Key) : ∀ {kvs : List (Key × U)} {es : List (Key × V)}, Rpk B kvs es → (es.any fun kv => decide (kv.1 = k)) = (kvs.any fun kv => decide (kv.1 = k))
  | _, _, .nil => rfl
  | _, _, .cons _ t => by rw [List.any_cons, List.any_cons, Rpk.any k t]
theorem Rpk.repl (h : Rp B x v) (k : Key) : ∀ {kvs : List (Key × U)} {es : List (Key × V)}, Rpk B kvs es → Rpk B (kvs.map fun kv => if kv.1 = k then (kv.1, x) else kv) (es.map fun kv => if kv.1 = k then (kv.1, v) else kv)
  | _, _, .nil => .nil
  | _, _, @Rpk.cons _ _ k' y w kvs es r t => by
    rw [List.map_cons, List.map_cons]
    by_cases e : k' = k
    · simp only [e, if_true]; exact .cons h (Rpk.repl h k t)
    · simp only [e, if_false]; exact .cons r (Rpk.repl h k t)
theorem Rpk.snoc (h : Rp B x v) (k : Key) : ∀ {kvs : List (Key × U)} {es : List (Key × V)}, Rpk B kvs es → Rpk B (kvs ++ [(k, x)]) (es ++ [(k, v)])
  | _, _, .nil => .cons h .nil
  | _, _, .cons r t => .cons r (Rpk.snoc h k t)
theorem Rpk.put (h : Rp B x v) (k : Key) {kvs : List (Key × U)} {es : List (Key × V)} (r : Rpk B kvs es) : Rpk B (putU kvs k x) (putK es k v) := by
  unfold putU putK
  rw [r.any k]
  split
  · exact r.repl h k
  · exact r.snoc h k
theorem Rpt.any (k : List Key) : ∀ {kvs : List (List Key × U)} {es : List (List Key × V)}, Rpt B kvs es → (es.any fun kv => decide (kv.1 = k)) = (kvs.any fun kv => decide (kv.1 = k))
  | _, _, .nil => rfl
  | _, _, .cons _ t => by rw [List.any_cons, List.any_cons, Rpt.any k t]
theorem Rpt.repl (h : Rp B x v) (k : List Key) : ∀ {kvs : List (List Key × U)} {es : List (List Key × V)}, Rpt B kvs es → Rpt B (kvs.map fun kv => if kv.1 = k then (kv.1, x) else kv) (es.map fun kv => if kv.1 = k then (kv.1, v) else kv)
  | _, _, .nil => .nil
  | _, _, @Rpt.cons _ _ k' y w kvs es r t => by
    rw [List.map_cons, List.map_cons]
    by_cases e : k' = k
    · simp only [e, if_true]; exact .cons h (Rpt.repl h k t)
    · simp only [e, if_false]; exact .cons r (Rpt.repl h k t)
theorem Rpt.snoc (h : Rp B x v) (k : List Key) : ∀ {kvs : List (List Key × U)} {es : List (List Key × V)}, Rpt B kvs es → Rpt B (kvs ++ [(k, x)]) (es ++ [(k, v)])
  | _, _, .nil => .cons h .nil
  | _, _, .cons r t => .cons r (Rpt.snoc h k t)
theorem Rpt.put (h : Rp B x v) (k : List Key) {kvs : List (List Key × U)} {es : List (List Key × V)} (r : Rpt B kvs es) : Rpt B (putU kvs k x) (putK es k v) := by
  unfold putU putK
  rw [r.any k]
  split
  · exact r.repl h k
  · exact r.snoc h k
theorem Rpt.length {B : Hp} : ∀ {xs : List (List Key × U)} {vs : List (List Key × V)}, Rpt B xs vs → vs.length = xs.length
  | _, _, .nil => rfl
  | _, _, .cons _ t => by rw [List.length_cons, List.length_cons, Rpt.length t]
end
section
variable {α : Type} {R : α × List U} {Rr : U × List U} {β : Bs} {σ : St} {B H : Hp} {ps : List Addr} {us : List U} {K : PySem.W.Frag} {te tb ty tv : TE} {t : TT} {tu tw tz : TS} {D : Ends} {F G : SM U} {i j jj : Nat} {p : Addr}
theorem q_retS (W : Wh β B H ps us) (h : EvS β.M ps σ B te F) (e : F us = some Rr) (k : ∀ v B2 H2 ps2, Wh β B2 H2 ps2 Rr.2 → Rp B2 Rr.1 v → D.rt v H2) : tSeq (tRet te) tz D σ H :=
  h _ _ _ e B H W.at W.w _ fun v B2 H2 g2 r2 w2 => k v B2 H2 ps (W.step g2 w2) r2
theorem q_retN (W : Wh β B H ps us) (h : EvN β.M ps σ B te F) (e : F us = some Rr) (k : ∀ p B2 H2 ps2, Wh β B2 H2 ps2 Rr.2 → β.H p = none → B2 p = none → OwnAt B2 H2 p Rr.1 → D.rt (.ref p) H2) : tSeq (tRet te) tz D σ H :=
  h _ _ _ e B H W.at W.w _ fun p B2 H2 g2 n2 b2 o2 w2 => k p B2 H2 ps (W.step g2 w2) (W.g.n p n2) b2 o2
theorem q_asgS {f : U → SM α} (W : Wh β B H ps us) (h : EvS β.M ps σ B te F) (e : bindS F f us = some R) (k : ∀ x v B1 H1 us1, Wh β B1 H1 ps us1 → Same B B1 → Rp B1 x v → f x us1 = some R → tz D (σ.set i (some v)) H1) : tSeq (tAsg te (gName i)) tz D σ H := by
  obtain ⟨x, us1, ex, e⟩ := bindS_some e
  exact h _ _ _ ex B H W.at W.w _ fun v B2 H2 g2 r2 w2 => k x v B2 H2 us1 (W.step g2 w2) g2.b r2 e
theorem q_exprS {f : U → SM α} (W : Wh β B H ps us) (h : EvS β.M ps σ B te F) (e : bindS F f us = some R) (k : ∀ x B1 H1 us1, Wh β B1 H1 ps us1 → Same B B1 → f x us1 = some R → tz D σ H1) : tSeq (tDrop te) tz D σ H := by
  obtain ⟨x, us1, ex, e⟩ := bindS_some e
  exact h _ _ _ ex B H W.at W.w _ fun v B2 H2 g2 r2 w2 => k x B2 H2 us1 (W.step g2 w2) g2.b e
theorem q_twoS {f : U → U → SM α} (W : Wh β B H ps us) (h : EvS β.M ps σ B te F) (e : bindS F (fun u => unpS u f) us = some R) (k : ∀ x y v w B1 H1 us1, Wh β B1 H1 ps us1 → Same B B1 → Rp B1 x v → Rp B1 y w → f x y us1 = some R → tz D ((σ.set i (some v)).set j (some w)) H1) :
    tSeq (tAsg te (gTup K 2 (gCons (gName i) (gCons (gName j) gNil)))) tz D σ H := by
  obtain ⟨u, us1, eu, e⟩ := bindS_some e
  obtain ⟨⟨x, y⟩, exy, e⟩ := bind_some e
  exact h _ _ _ eu B H W.at W.w _ fun v B2 H2 g2 r2 w2 => g_two g2.bh r2 exy fun a b ra rb => k x y a b B2 H2 us1 (W.step g2 w2) g2.b ra rb e
theorem q_parS {ta : TA} {F : SM (List U)} {f : U → U → SM α} (W : Wh β B H ps us) (h : EvAS β.M ps σ B ta F) (e : bindS F (fun xs => parS xs f) us = some R) (k : ∀ x y v w B1 H1 us1, Wh β B1 H1 ps us1 → Same B B1 → Rp B1 x v → Rp B1 y w → f x y us1 = some R → tz D ((σ.set i (some v)).set j (some w)) H1) :
    tSeq (tPar i j ta) tz D σ H := by
  obtain ⟨xs, us1, eu, e⟩ := bindS_some e
  match xs, eu, e with
  | [x, y], eu, e =>
    refine h _ _ _ eu B H W.at W.w _ fun vs B2 H2 g2 r2 w2 => ?_
    cases r2 with
    | cons r1 t =>
      cases t with
      | cons r2 t =>
        cases t
        exact ⟨_, _, rfl, k x y _ _ B2 H2 us1 (W.step g2 w2) g2.b r1 r2 e⟩
  | [], _, e => cases e
  | [_], _, e => cases e
  | _ :: _ :: _ :: _, _, e => cases e
theorem q_ifS {c : SM Bool} {m1 m2 : SM α} (W : Wh β B H ps us) (h : EvTS β.M ps σ B t c) (e : ifS c m1 m2 us = some R) (h1 : ∀ B1 H1 us1, Wh β B1 H1 ps us1 → Same B B1 → m1 us1 = some R → tu { D with nx := tz D } σ H1) (h2 : ∀ B1 H1 us1, Wh β B1 H1 ps us1 → Same B B1 → m2 us1 = some R → tw { D with nx := tz D } σ H1) :
    tSeq (tIfS t tu tw) tz D σ H := by
  obtain ⟨x, us1, ex, e⟩ := bindS_some e
  refine h _ _ _ ex B H W.at W.w _ fun B2 H2 g2 w2 => ?_
  cases x with
  | true => exact h1 B2 H2 us1 (W.step g2 w2) g2.b e
  | false => exact h2 B2 H2 us1 (W.step g2 w2) g2.b e
theorem q_forS {wi : TI} {g : TG} {F : SM (List U)} {L : List U → SM α} (W : Wh β B H ps us) (hi : EvIS β.M ps σ B wi F) (e : bindS F L us = some R)
    (k : ∀ xs B2 H2 us1, Wh β B2 H2 ps us1 → Same B B2 → L xs us1 = some R → ∃ Rl : List U → St → Hp → Hp → Prop, Rl xs σ B2 H2 ∧ (∀ l σ' B' H', Rl l σ' B' H' → Same B2 B' ∧ Same B' H') ∧
      (∀ u l v σ' B' H' B'' H'', Rl (u :: l) σ' B' H' → Go B' H' B'' H'' → Rp B'' u v → g v σ' H'' fun σ2 H3 => tu { D with nx := fun σ3 H4 => ∃ B4, Rl l σ3 B4 H4, ct := fun σ3 H4 => ∃ B4, Rl l σ3 B4 H4, bk := tz D } σ2 H3) ∧
      (∀ σ' B' H', Rl [] σ' B' H' → tz D σ' H')) : tSeq (tFor wi g tu) tz D σ H := by
  obtain ⟨xs, us1, exs, e⟩ := bindS_some e
  refine hi _ _ _ exs B H W.at W.w _ fun J B2 H2 g2 w w2 => ?_
  obtain ⟨Rl, r0, rs, rt, rd⟩ := k xs B2 H2 us1 (W.step g2 w2) g2.b e
  have w' : Walk J xs.length (fun H' => Same B2 H') (J.yld) := ⟨w.goes, w.stops, fun _ _ _ _ _ _ y => y⟩
  refine for_it (D := { D with nx := tz D }) w' (fun i σ' H' => ∃ B', Rl (xs.drop i) σ' B' H') ⟨B2, r0⟩ (fun i σ' H' _ ⟨B', r⟩ => (rs _ _ _ _ r).1.trans (rs _ _ _ _ r).2) ?_ ?_
  · rintro i x σ' H' H'' hin ⟨B', r⟩ y
    obtain ⟨s1, s2⟩ := rs _ _ _ _ r
    obtain ⟨B'', u, g', eu, ru⟩ := w.yields i H' x H'' B' hin s1 s2 y
    rw [drop_at eu] at r
    exact rt u _ x σ' B' H' B'' H'' r g' ru
  · rintro σ' H' ⟨B', r⟩
    rw [List.drop_length] at r
    exact rd σ' B' H' r
theorem q_newS {f : SM α} (W : Wh β B H ps us) (h : EvN β.M ps σ B te F) (e : bindS F (fun u => addS u f) us = some R) (k : ∀ p B1 H1 us1, Wh β B1 H1 (ps ++ [p]) us1 → Same B B1 → f us1 = some R → tz D (σ.set i (some (.ref p))) H1) : tSeq (tAsg te (gName i)) tz D σ H := by
  obtain ⟨x, us1, ex, e⟩ := bindS_some e
  exact h _ _ _ ex B H W.at W.w _ fun p B2 H2 g2 n2 b2 o2 w2 => k p B2 H2 _ (W.new g2 w2 n2 b2 o2) g2.b e
theorem q_swapS {f : SM α} (W : Wh β B H ps us) (hj : jj < ps.length) (h0 : 0 < jj ∨ β.hd = none) (h : EvN β.M ps σ B te F) (e : bindS F (fun u => swapS jj u f) us = some R) (k : ∀ p B1 H1 us1, Wh β B1 H1 (ps.set jj p) us1 → Same B B1 → f us1 = some R → tz D (σ.set i (some (.ref p))) H1) : tSeq (tAsg te (gName i)) tz D σ H := by
  obtain ⟨x, us1, ex, e⟩ := bindS_some e
  exact h _ _ _ ex B H W.at W.w _ fun p B2 H2 g2 n2 b2 o2 w2 => k p B2 H2 _ (W.swap hj h0 g2 w2 n2 b2 o2) g2.b e
theorem setLS_do {k y : U} {v : V} {z : U} {us us' : List U} (hp : ps[jj]? = some p) (e : setLS jj k y us = some (z, us')) (w : Ows β.M B H ps us) (s : Same B H) (r : Rp B y v) {kv : V} (rk : Rp B k kv) {Q : Hp → Prop} (q : ∀ H2, Gs (inP ps) B H B H2 → Ows β.M B H2 ps us' → Q H2) : rSetL (.ref p) kv v H Q := by
  unfold setLS at e
  split at e
  · rename_i xs n eu
    obtain ⟨m, em, e⟩ := map_some e
    cases e
    cases rk
    have wp := w.at_ jj p _ hp eu
    obtain ⟨hb, vs, e1, rr⟩ := wp.own rfl
    exact ⟨p, vs, n, m, rfl, rfl, e1, by rw [rr.length]; exact em, q _ (gs_upd hp s hb) (own_upd hp w s wp.m hb ⟨_, upd_same, rr.set r m⟩)⟩
  · cases e
/-- x[i] = e, a list -/
theorem q_setL {ti : TE} {f : SM α} (W : Wh β B H ps us) (hp : ps[jj]? = some p) (hv : σ[i]? = some (some (.ref p))) (h : EvS β.M ps σ B te F) (h2 : EvS β.M ps σ B ti G) (e : bindS F (fun y => bindS G fun k => bindS (setLS jj k y) fun _ => f) us = some R) (k : ∀ B1 H1 us1, Wh β B1 H1 ps us1 → Same B B1 → f us1 = some R → tz D σ H1) :
    tSeq (tAsg te (gSub (tVar i) ti rSetL)) tz D σ H := by
  obtain ⟨y, us1, ey, e⟩ := bindS_some e
  obtain ⟨kk, us2, ek, e⟩ := bindS_some e
  obtain ⟨z, us3, ez, e⟩ := bindS_some e
  refine h _ _ _ ey B H W.at W.w _ fun v B2 H2 g2 r2 w2 => ⟨_, hv, h2 _ _ _ ek B2 H2 (W.at.trs g2) w2 _ fun kv B3 H3 g3 r3 w3 => ?_⟩
  exact setLS_do hp ez w3 g3.bh (r2.upA g3.at) r3 fun H4 g4 w4 => k B3 H4 us3 (W.step ((g2.trans g3).trans g4) w4) (g2.b.trans g3.b) e
/-- x[i], d = e -/
theorem q_setTwo {ti : TE} {f : U → SM α} (W : Wh β B H ps us) (hp : ps[jj]? = some p) (hv : σ[i]? = some (some (.ref p))) (h : EvS β.M ps σ B te F) (h2 : EvS β.M ps σ B ti G) (e : bindS F (fun u => unpS u fun x y => bindS G fun k => bindS (setLS jj k x) fun _ => f y) us = some R) (k : ∀ y v B1 H1 us1, Wh β B1 H1 ps us1 → Same B B1 → Rp B1 y v → f y us1 = some R → tz D (σ.set j (some v)) H1) :
    tSeq (tAsg te (gTup K 2 (gCons (gSub (tVar i) ti rSetL) (gCons (gName j) gNil)))) tz D σ H := by
  obtain ⟨u, us1, eu, e⟩ := bindS_some e
  obtain ⟨⟨x, y⟩, exy, e'⟩ := bind_some e
  obtain ⟨kk, us2, ek, e''⟩ := bindS_some e'
  obtain ⟨z, us3, ez, e3⟩ := bindS_some e''
  refine h _ _ _ eu B H W.at W.w _ fun v B2 H2 g2 r2 w2 => ?_
  have e0 := unp2_tup exy
  subst e0
  cases r2 with
  | @tup ad _ vs e0 r =>
    cases r with
    | cons r1 t =>
      cases t with
      | cons r2 t =>
        cases t
        refine ⟨ad, _, rfl, SqT.of (g2.bh _ _ e0), rfl, _, _, rfl, _, hv, h2 _ _ _ ek B2 H2 (W.at.trs g2) w2 _ fun kv B3 H3 g3 r3 w3 => ?_⟩
        exact setLS_do hp ez w3 g3.bh (r1.upA g3.at) r3 fun H4 g4 w4 => ⟨_, _, rfl, rfl, k y _ B3 H4 us3 (W.step ((g2.trans g3).trans g4) w4) (g2.b.trans g3.b) (r2.upA g3.at) e3⟩
/-- d[k] = e, a dict -/
theorem q_dput {f : SM α} (W : Wh β B H ps us) (hp : ps[jj]? = some p) (hv : σ[i]? = some (some (.ref p))) (h : EvS β.M ps σ B tv F) (h2 : EvS β.M ps σ B ty G) (e : bindS F (fun y => bindS G fun k => bindS (putS jj k y) fun _ => f) us = some R) (k : ∀ B1 H1 us1, Wh β B1 H1 ps us1 → Same B B1 → f us1 = some R → tz D σ H1) :
    tSeq (sDPut (tVar i) ty tv) tz D σ H := by
  obtain ⟨y, us1, ey, e⟩ := bindS_some e
  obtain ⟨kk, us2, ek, e⟩ := bindS_some e
  obtain ⟨z, us3, ez, e⟩ := bindS_some e
  refine h _ _ _ ey B H W.at W.w _ fun v B2 H2 g2 r2 w2 => ⟨_, hv, h2 _ _ _ ek B2 H2 (W.at.trs g2) w2 _ fun kv B3 H3 g3 r3 w3 => ?_⟩
  have r2 := r2.upA g3.at
  unfold putS at ez
  split at ez
  · rename_i kvs eu
    obtain ⟨kq, ekq, ez⟩ := bind_some ez
    split at ez
    · rename_i hl
      cases ez
      have wp := w3.at_ jj p _ hp eu
      obtain ⟨hb, es, e1, rr⟩ := wp.own rfl
      exact ⟨p, _, rfl, .inl ⟨es, kq, e1, r3.key ekq, lim_lt (by rw [rr.length]; exact Nat.le_of_lt hl), rfl⟩, k B3 _ _ (W.step ((g2.trans g3).trans (gs_upd hp g3.bh hb)) (own_upd (u := U.dic (putU kvs kq y)) hp w3 g3.bh wp.m hb ⟨_, upd_same, rr.put r2 kq⟩)) (g2.b.trans g3.b) e⟩
    · cases ez
  · rename_i kvs eu
    split at ez
    · rename_i ys
      obtain ⟨kq, ekq, ez⟩ := bind_some ez
      split at ez
      · rename_i hl
        cases ez
        have wp := w3.at_ jj p _ hp eu
        obtain ⟨hb, es, e1, rr⟩ := wp.own rfl
        cases r3 with
        | @tup bb _ ws eb rb =>
          have hk := rb.keys ekq
          exact ⟨p, _, rfl, .inr ⟨es, kq, bb, e1, rfl, by rw [← hk]; exact g3.bh _ _ eb, lim_lt (by rw [rr.length]; exact Nat.le_of_lt hl), rfl⟩, k B3 _ _ (W.step ((g2.trans g3).trans (gs_upd hp g3.bh hb)) (own_upd (u := U.dit (putU kvs kq y)) hp w3 g3.bh wp.m hb ⟨_, upd_same, rr.put r2 kq⟩)) (g2.b.trans g3.b) e⟩
      · cases ez
    · cases ez
  · cases ez
end
/-! ### a def's arguments -/
def finS (o : Option (U × List U)) : Option (U × U) := o.bind fun R => match R.2 with
  | u :: _ => if u.own = true then some (R.1, u) else none
  | [] => none
def runS (F : SM U) : Option U := (F []).map Prod.fst
def b0 (f : SM U) : U → List U → Option (U × U)
  | u, [] => finS (f [u])
  | _, _ => none
def b1 (f : U → SM U) : U → List U → Option (U × U)
  | u, [x] => finS (f x [u])
  | _, _ => none
def b2 (f : U → U → SM U) : U → List U → Option (U × U)
  | u, [x, y] => finS (f x y [u])
  | _, _ => none
def b3 (f : U → U → U → SM U) : U → List U → Option (U × U)
  | u, [x, y, z] => finS (f x y z [u])
  | _, _ => none
def b4 (f : U → U → U → U → SM U) : U → List U → Option (U × U)
  | u, [x, y, z, t] => finS (f x y z t [u])
  | _, _ => none
section
variable {vs : List V} {H : Hp} {Q : VK} {E : XK}
/-- the base of a def that changes the object at p -/
abbrev bsM (B H : Hp) (p : Addr) : Bs := ⟨fun a => a = p, some p, B, H⟩
abbrev bsU (B H : Hp) : Bs := ⟨fun _ => False, none, B, H⟩
theorem wh_pure {B : Hp} (s : Same B H) : Wh (bsU B H) B H [] [] := ⟨.refl s, ows_nil, fun p h => nomatch h⟩
theorem Wh.pure {B B2 H2 : Hp} {ps : List Addr} {us : List U} (W : Wh (bsU B H) B2 H2 ps us) : Go B H B2 H2 := W.g.go
theorem wh_first {B : Hp} {p : Addr} {u : U} (s : Same B H) (hb : B p = none) (o : OwnAt B H p u) : Wh (bsM B H p) B H [p] [u] :=
  ⟨.refl s, ⟨rfl, fun i j q h1 h2 => by
      have a1 := (List.getElem?_eq_some_iff.mp h1).1
      have a2 := (List.getElem?_eq_some_iff.mp h2).1
      simp at a1 a2; omega, fun j q v hq hv => by
      have a1 := (List.getElem?_eq_some_iff.mp hq).1
      have : j = 0 := by simp at a1; omega
      subst this
      cases hq; cases hv
      exact ⟨.inl rfl, o.ex, .inr ⟨hb, o⟩⟩⟩, fun q h => h⟩
theorem fin_of {B : Hp} {p : Addr} {o : Option (U × List U)} {r u' : U} (e : finS o = some (r, u')) (k : ∀ v B2 H2, Gs (fun a => a = p) B H B2 H2 → B2 p = none → OwnAt B2 H2 p u' → Rp B2 r v → Q v H2) :
    ∃ R, o = some R ∧ ∀ v B2 H2 ps2, Wh (bsM B H p) B2 H2 ps2 R.2 → Rp B2 R.1 v → Q v H2 := by
  obtain ⟨R, eR, e⟩ := bind_some e
  refine ⟨R, eR, fun v B2 H2 ps2 W r2 => ?_⟩
  split at e
  · rename_i u0 rest hR
    split at e
    · rename_i ho
      cases e
      have hd := W.hd p rfl
      cases ps2 with
      | nil => cases hd
      | cons q ps2 =>
        cases hd
        have wp := W.w.at_ 0 p u' rfl (by rw [hR]; rfl)
        obtain ⟨hb, ow⟩ := wp.own ho
        exact k v B2 H2 W.g hb ow r2
    · cases e
  · cases e
theorem ss0 {f : SM U} (h : spS (b0 f) vs H Q E) : ∃ B p u R, vs = [.ref p] ∧ Same B H ∧ Wh (bsM B H p) B H [p] [u] ∧ f [u] = some R ∧ ∀ v B2 H2 ps2, Wh (bsM B H p) B2 H2 ps2 R.2 → Rp B2 R.1 v → Q v H2 := by
  obtain ⟨B, p, ws, u, xs, r, u', s, ev, hb, o, rs, e, k⟩ := h
  match xs, rs, e with
  | [], .nil, e =>
    obtain ⟨R, eR, k⟩ := fin_of e k
    exact ⟨B, p, u, R, ev, s, wh_first s hb o, eR, k⟩
theorem ss1 {f : U → SM U} (h : spS (b1 f) vs H Q E) : ∃ B p u x v R, vs = [.ref p, v] ∧ Same B H ∧ Wh (bsM B H p) B H [p] [u] ∧ Rp B x v ∧ f x [u] = some R ∧ ∀ v B2 H2 ps2, Wh (bsM B H p) B2 H2 ps2 R.2 → Rp B2 R.1 v → Q v H2 := by
  obtain ⟨B, p, ws, u, xs, r, u', s, ev, hb, o, rs, e, k⟩ := h
  match xs, rs, e with
  | [x], .cons r1 .nil, e =>
    obtain ⟨R, eR, k⟩ := fin_of e k
    exact ⟨B, p, u, x, _, R, ev, s, wh_first s hb o, r1, eR, k⟩
theorem ss2 {f : U → U → SM U} (h : spS (b2 f) vs H Q E) : ∃ B p u x y v w R, vs = [.ref p, v, w] ∧ Same B H ∧ Wh (bsM B H p) B H [p] [u] ∧ Rp B x v ∧ Rp B y w ∧ f x y [u] = some R ∧ ∀ v B2 H2 ps2, Wh (bsM B H p) B2 H2 ps2 R.2 → Rp B2 R.1 v → Q v H2 := by
  obtain ⟨B, p, ws, u, xs, r, u', s, ev, hb, o, rs, e, k⟩ := h
  match xs, rs, e with
  | [x, y], .cons r1 (.cons r2 .nil), e =>
    obtain ⟨R, eR, k⟩ := fin_of e k
    exact ⟨B, p, u, x, y, _, _, R, ev, s, wh_first s hb o, r1, r2, eR, k⟩
theorem ss3 {f : U → U → U → SM U} (h : spS (b3 f) vs H Q E) : ∃ B p u x y z v w t R, vs = [.ref p, v, w, t] ∧ Same B H ∧ Wh (bsM B H p) B H [p] [u] ∧ Rp B x v ∧ Rp B y w ∧ Rp B z t ∧ f x y z [u] = some R ∧ ∀ v B2 H2 ps2, Wh (bsM B H p) B2 H2 ps2 R.2 → Rp B2 R.1 v → Q v H2 := by
  obtain ⟨B, p, ws, u, xs, r, u', s, ev, hb, o, rs, e, k⟩ := h
  match xs, rs, e with
  | [x, y, z], .cons r1 (.cons r2 (.cons r3 .nil)), e =>
    obtain ⟨R, eR, k⟩ := fin_of e k
    exact ⟨B, p, u, x, y, z, _, _, _, R, ev, s, wh_first s hb o, r1, r2, r3, eR, k⟩
/-- a plain def with objects of its own: from what it comes to -/
theorem runS_some {f : SM U} {r : U} (h : runS f = some r) : ∃ R, f [] = some R ∧ R.1 = r := map_some h
end
end Dn
set_option Elab.async false
set_option linter.all false
set_option maxRecDepth 100000
set_option maxHeartbeats 2000000
namespace Dn
open PySem L2
variable [CTab]
/-! ### iterating: lists, tuples, the keys of a dict -/
def U.iter : U → Option (List U)
  | .lst xs => some xs
  | .tup xs => some xs
  | .frl xs => some xs
  | .dic kvs => some (kvs.map fun kv => kU kv.1)
  | _ => none
def iAny (K : PySem.W.Frag) (tl : TE) : TI := fun σ H R => tl σ H fun x H1 => (∃ a, x = .ref a ∧ (∃ xs, SqL K H1 a xs) ∧ R (Itl K a) H1) ∨ (∃ a, x = .ref a ∧ (∃ xs, SqT K H1 a xs) ∧ R (Itt K a) H1) ∨
  (∃ d o kvs, x = .ref d ∧ H1 d = some (.frz o (.dK kvs)) ∧ R (Itk d o kvs) H1)
theorem pi_any {X : Cx} {tg l : Expr} {tl : TE} (hl : PE X l tl) : PI X tg l (iAny X.K tl) := by
  refine ⟨fun pins s σ H R I h => ?_⟩
  refine thn (hl.run pins s σ H _ I h) fun v s1 ⟨x, H1, I1, r1, q1⟩ => ?_
  rcases q1 with ⟨a, e, ⟨xs, hq⟩, q⟩ | ⟨a, e, ⟨xs, hq⟩, q⟩ | ⟨d, o, kvs, e, hd, q⟩
  · subst e
    cases r1
    obtain ⟨its, rv, p, hz⟩ := I1.list hq
    refine wpAny_pyIter_list p.isList ?_
    refine ⟨s1.heap.objs.size, [s1.heap.objs.size], _, _, H1, rfl, I1.kept (t' := s1.toks) fun b o e => Heap.get?_push_of_some _ e, turn_list a _, ⟨_, Heap.get?_push_size _ rfl, rfl, rfl⟩, fun b hb => ?_, q⟩
    have e : b = s1.heap.objs.size := by simpa using hb
    subst e
    exact I1.fpOk (Nat.le_refl _) (I1.hok.fresh (Nat.le_refl _))
  · subst e
    cases r1
    obtain ⟨its, rv, p, hz⟩ := I1.tuple hq
    refine wpAny_pyIter_tuple (show s1.heap.IsTuple a its.toArray from p) ?_
    refine ⟨s1.heap.objs.size, [s1.heap.objs.size], _, _, H1, rfl, I1.kept (t' := s1.toks) fun b o e => Heap.get?_push_of_some _ e, turn_tuple a _, ⟨_, Heap.get?_push_size _ rfl, rfl, rfl⟩, fun b hb => ?_, q⟩
    have e : b = s1.heap.objs.size := by simpa using hb
    subst e
    exact I1.fpOk (Nat.le_refl _) (I1.hok.fresh (Nat.le_refl _))
  · subst e
    cases r1
    obtain ⟨hs, hgd, hx, es, ep, vs, hdt, hsz, kv, hm⟩ := I1.frzK hd
    refine L2.iter_keys hs hgd hx hdt (pi_one (tk := s1.toks) I1 _ (turn_keys _ hdt) ⟨_, Heap.get?_push_size _ rfl, rfl, ?_⟩ q)
    rw [hsz] <;> rfl
theorem Rpk.at {B : Hp} : ∀ {xs : List (Key × U)} {vs : List (Key × V)} {i : Nat} {k : Key} {v : V}, Rpk B xs vs → vs[i]? = some (k, v) → ∃ x, xs[i]? = some (k, x) ∧ Rp B x v
  | _, _, _, _, _, .nil, e => by simp at e
  | _, _, 0, _, _, .cons h _, e => by simp at e; obtain ⟨rfl, rfl⟩ := e; exact ⟨_, rfl, h⟩
  | _, _, i + 1, k, v, .cons _ t, e => by
    obtain ⟨x, h1, h2⟩ := Rpk.at (i := i) (k := k) (v := v) t (by simpa using e)
    exact ⟨x, by simpa using h1, h2⟩
section
variable {σ : St} {B H : Hp} {te tl ta tb : TE} {oa ob : Option U} {K : PySem.W.Frag}
theorem ei_any (h : EvO tl σ B H oa) : EvI (iAny K tl) σ B H (oa.bind U.iter) := fun xs e B1 H1 g R q => by
  obtain ⟨x, ex, e⟩ := bind_some e
  refine h x ex B1 H1 g _ fun v B2 H2 g2 r => ?_
  cases r with
  | @lst a ys vs h r =>
    cases e
    exact .inl ⟨a, rfl, ⟨vs, SqL.of (g2.bh _ _ h)⟩, q _ B2 H2 g2 (WalkU.of (walk_list (K := K) (a := a)) r.length (fun H s => SqL.of (s _ _ h)) r)⟩
  | @tup a ys vs h r =>
    cases e
    exact .inr (.inl ⟨a, rfl, ⟨vs, SqT.of (g2.bh _ _ h)⟩, q _ B2 H2 g2 (WalkU.of (walk_tup (K := K) (a := a)) r.length (fun H s => SqT.of (s _ _ h)) r)⟩)
  | @frl a ys vs o h r =>
    cases e
    exact .inl ⟨a, rfl, ⟨_, .inl (.inr ⟨o, g2.bh _ _ h⟩)⟩, q _ B2 H2 g2 (WalkU.of (walk_list (K := K) (a := a)) r.length (fun H s => .inl (.inr ⟨o, s _ _ h⟩)) r)⟩
  | @dic a kvs es o h r =>
    cases e
    refine .inr (.inr ⟨a, o, es, rfl, g2.bh _ _ h, q _ B2 H2 g2 ⟨fun i H' hi s => ?_, fun H' s => ?_, fun i H' x H'' B' hi s1 s2 y => ?_⟩⟩)
    · rw [List.length_map, ← r.length] at hi
      exact (walk_keys (kvs := es)).goes i H' hi (s _ _ h)
    · rw [List.length_map, ← r.length]
      exact (walk_keys (kvs := es)).stops H' (s _ _ h)
    · rw [List.length_map, ← r.length] at hi
      obtain ⟨e1, k, v, e2, e3⟩ := (walk_keys (kvs := es)).yields i H' x H'' hi ((s1.trans s2) _ _ h) y
      subst e1 e3
      obtain ⟨x, ex, _⟩ := r.at e2
      exact ⟨B', kU k, Go.refl s2, by simp [ex], rp_key k⟩
  | _ => cases e
end
section
variable {M : Addr → Prop} {ps : List Addr} {σ : St} {B H : Hp} {te : TE} {F : SM U} {K : PySem.W.Frag}
def iterS (F : SM U) : SM (List U) := bindS F fun x => pureS x.iter
theorem eis_any (h : EvS M ps σ B te F) : EvIS M ps σ B (iAny K te) (iterS F) := fun us xs us' e B1 H1 g w R q => by
  obtain ⟨x, us1, ex, e⟩ := bindS_some e
  obtain ⟨ee, rfl⟩ := pureS_some e; clear e; have e := ee; clear ee
  refine h _ _ _ ex B1 H1 g w _ fun v B2 H2 g2 r w2 => ?_
  have h2 : EvO (fun _ H Q => Q v H) σ B2 H2 (some x) := fun z ez B3 H3 g3 Q q => by cases ez; exact q v B3 H3 (Go.refl g3.bh) (r.upA g3)
  exact ei_any h2 xs (by simpa using e) B2 H2 (At.refl g2.bh) R fun J B3 H3 g3 wk => q J B3 H3 (g2.trans (.of g3)) wk (w2.go g3)
end
/-! ### list(..) of a list, a tuple, a dict -/
theorem call_listB {X : Cx} (hc : X.calm = true) : CallR X (.type "list") (fun xs H Q => (∃ p ys, xs = [.ref p] ∧ (SqL X.K H p ys ∨ SqT X.K H p ys) ∧ ∀ l, H l = none → Q (.ref l) (upd H l (.lst ys))) ∨
    ∃ (a : Addr) (kvs : List (Key × V)), xs = [.ref a] ∧ Rd H a (.dK kvs) ∧ ∀ p, H p = none → Q (.ref p) (upd H p (.lst (kvs.map fun kv => kV kv.1)))) := CallR.or call_list_of (call_listD hc)
theorem Rpk.keysU {B : Hp} : ∀ {xs : List (Key × U)} {vs : List (Key × V)}, Rpk B xs vs → Rps B (xs.map fun kv => kU kv.1) (vs.map fun kv => kV kv.1)
  | _, _, .nil => .nil
  | _, _, .cons _ t => .cons (rp_key _) (Rpk.keysU t)
def listB : U → Option U := fun x => x.iter.map U.lst
/-- the same, new -/
def listNB : U → Option U := fun x => x.iter.map U.frl
theorem iter_call {K : PySem.W.Frag} {x : U} {xs : List U} (e : x.iter = some xs) {v : V} {B H : Hp} (s : Same B H) (rx : Rp B x v) {Q : VK} (q : ∀ p vs, H p = none → Rps B xs vs → Q (.ref p) (upd H p (.lst vs))) :
    (∃ p ys, [v] = [V.ref p] ∧ (SqL K H p ys ∨ SqT K H p ys) ∧ ∀ l, H l = none → Q (.ref l) (upd H l (.lst ys))) ∨
    ∃ (a : Addr) (kvs : List (Key × V)), [v] = [V.ref a] ∧ Rd H a (.dK kvs) ∧ ∀ p, H p = none → Q (.ref p) (upd H p (.lst (kvs.map fun kv => kV kv.1))) := by
  cases rx with
  | @lst a xs vs h r => cases e; exact .inl ⟨a, vs, rfl, .inl (SqL.of (s _ _ h)), fun p hp => q _ _ hp r⟩
  | @tup a xs vs h r => cases e; exact .inl ⟨a, vs, rfl, .inr (SqT.of (s _ _ h)), fun p hp => q _ _ hp r⟩
  | @frl a xs vs o h r => cases e; exact .inl ⟨a, vs, rfl, .inl (.inl (.inr ⟨o, s _ _ h⟩)), fun p hp => q _ _ hp r⟩
  | @dic a kvs es o h r => cases e; exact .inr ⟨a, es, rfl, .inr ⟨o, s _ _ h⟩, fun p hp => q _ _ hp r.keysU⟩
  | _ => cases e
theorem rc_listB {K : PySem.W.Frag} : RC (fun xs H Q => (∃ p ys, xs = [V.ref p] ∧ (SqL K H p ys ∨ SqT K H p ys) ∧ ∀ l, H l = none → Q (.ref l) (upd H l (.lst ys))) ∨
    ∃ (a : Addr) (kvs : List (Key × V)), xs = [V.ref a] ∧ Rd H a (.dK kvs) ∧ ∀ p, H p = none → Q (.ref p) (upd H p (.lst (kvs.map fun kv => kV kv.1)))) (c1 listB) := rc_one c1_one fun x z e v B H s rx Q q => by
  obtain ⟨xs, ex, e⟩ := map_some (show x.iter.map U.lst = some z from e)
  subst e
  exact iter_call ex s rx fun p vs hp r => q _ _ _ (Go.new s hp) (.lst upd_same (r.new s hp))
section
variable {M : Addr → Prop} {ps : List Addr} {σ : St} {B H : Hp} {te : TE} {tl : TA} {F : SM U} {K : PySem.W.Frag}
theorem en_listB {F : SM (List U)} (ha : EvAS M ps σ B tl F) : EvN M ps σ B (tCB (fun xs H Q => (∃ p ys, xs = [V.ref p] ∧ (SqL K H p ys ∨ SqT K H p ys) ∧ ∀ l, H l = none → Q (.ref l) (upd H l (.lst ys))) ∨
    ∃ (a : Addr) (kvs : List (Key × V)), xs = [V.ref a] ∧ Rd H a (.dK kvs) ∧ ∀ p, H p = none → Q (.ref p) (upd H p (.lst (kvs.map fun kv => kV kv.1)))) tl) (callS (c1 listNB) F) := fun us z us' e B1 H1 g w Q q => by
  obtain ⟨x, us1, ex, e⟩ := bindS_some e
  obtain ⟨ee, rfl⟩ := pureS_some e; clear e; have e := ee; clear ee
  obtain ⟨x1, rfl⟩ := c1_one _ _ e
  obtain ⟨xs, exs, e⟩ := map_some (show x1.iter.map U.frl = some z from e)
  subst e
  refine ha _ _ _ ex B1 H1 g w _ fun vs B2 H2 g2 r w2 => ?_
  cases r with
  | cons r1 t =>
    cases t
    exact iter_call exs g2.bh r1 fun p vs hp r => q p B2 _ (g2.trans (.of (Go.own g2.bh hp))) (g2.n p hp) (g2.bh.free hp) (OwnAt.new r) (w2.go (Go.own g2.bh hp))
end
/-! ### text -/
def strsU : List U → Option (List Str)
  | [] => some []
  | .str s :: r => (strsU r).map fun z => s :: z
  | _ :: _ => none
theorem Rps.strs {B : Hp} : ∀ {xs : List U} {vs : List V} {ss : List Str}, Rps B xs vs → strsU xs = some ss → vs = ss.map V.str
  | _, _, _, .nil, h => by cases h; rfl
  | _, _, _, .cons (.str s) t, h => by
    obtain ⟨z, ez, h⟩ := map_some h
    subst h
    rw [List.map_cons, t.strs ez]
theorem Rps.ofStrs {B : Hp} : ∀ (ss : List Str), Rps B (ss.map U.str) (ss.map V.str)
  | [] => .nil
  | _ :: r => .cons (.str _) (Rps.ofStrs r)
def splitV : U → U → Option U
  | .str a, .str b => if b.length ≠ 0 ∧ a.length ≤ lim then some (.lst ((Txt.split a b).map U.str)) else none
  | _, _ => none
def joinV : U → U → Option U
  | .str a, x => match x with
    | .lst xs => (strsU xs).bind fun ss => if (ss.map (·.length)).sum + ss.length * a.length ≤ 16777216 then some (.str (Txt.join a ss)) else none
    | .tup xs => (strsU xs).bind fun ss => if (ss.map (·.length)).sum + ss.length * a.length ≤ 16777216 then some (.str (Txt.join a ss)) else none
    | .frl xs => (strsU xs).bind fun ss => if (ss.map (·.length)).sum + ss.length * a.length ≤ 16777216 then some (.str (Txt.join a ss)) else none
    | _ => none
  | _, _ => none
theorem lim_two {n : Nat} (h : n ≤ lim) : n + 2 ≤ sizeLine := Nat.le_trans (Nat.add_le_add_right h 2) (by decide)
section
variable {σ : St} {B H : Hp} {te tl ta tb : TE} {oa ob : Option U} {K : PySem.W.Frag}
theorem eo_split (ha : EvO ta σ B H oa) (hb : EvO tb σ B H ob) : EvO (tM1 (fun x xs H Q => ∃ a b, x = .str a ∧ xs = [.str b] ∧ (b.length == 0) = false ∧ a.length + 2 ≤ sizeLine ∧ rNewStrs (Txt.split a b) H Q) ta tb) σ B H (op2 splitV oa ob) := fun z e B1 H1 g Q q => by
  obtain ⟨x, ex, e⟩ := bind_some e
  obtain ⟨y, ey, e⟩ := bind_some e
  refine ha x ex B1 H1 g _ fun v B2 H2 g2 r2 => ?_
  unfold splitV at e
  split at e
  · rename_i a b
    split at e
    · rename_i hl
      cases e
      cases r2
      refine ⟨⟨_, rfl⟩, hb _ ey B2 H2 (g.trans g2) _ fun w B3 H3 g3 r3 => ?_⟩
      cases r3
      exact ⟨_, _, rfl, rfl, by simpa using hl.1, lim_two hl.2, fun p hp => q _ _ _ ((g2.trans g3).trans (Go.new g3.bh hp)) (.lst upd_same ((Rps.ofStrs _).new g3.bh hp))⟩
    · cases e
  · cases e
theorem eo_join (ha : EvO ta σ B H oa) (hb : EvO tb σ B H ob) : EvO (tM1 (fun x xs H Q => ∃ a p, ∃ ys : List Str, x = .str a ∧ xs = [.ref p] ∧ (SqL K H p (ys.map V.str) ∨ SqT K H p (ys.map V.str)) ∧
      (ys.map (·.length)).sum + ys.length * a.length ≤ 16777216 ∧ Q (.str (Txt.join a ys)) H) ta tb) σ B H (op2 joinV oa ob) := fun z e B1 H1 g Q q => by
  obtain ⟨x, ex, e⟩ := bind_some e
  obtain ⟨y, ey, e⟩ := bind_some e
  refine ha x ex B1 H1 g _ fun v B2 H2 g2 r2 => ?_
  cases r2 with
  | str a =>
    refine ⟨⟨a, rfl⟩, hb _ ey B2 H2 (g.trans g2) _ fun w B3 H3 g3 r3 => ?_⟩
    cases r3 with
    | @lst p xs vs h r =>
      obtain ⟨ss, es, e⟩ := bind_some (show (strsU xs).bind _ = some z from e)
      split at e
      · rename_i hl
        cases e
        have := r.strs es; subst this
        exact ⟨a, p, ss, rfl, rfl, .inl (SqL.of (g3.bh _ _ h)), hl, q _ B3 H3 (g2.trans g3) (.str _)⟩
      · cases e
    | @tup p xs vs h r =>
      obtain ⟨ss, es, e⟩ := bind_some (show (strsU xs).bind _ = some z from e)
      split at e
      · rename_i hl
        cases e
        have := r.strs es; subst this
        exact ⟨a, p, ss, rfl, rfl, .inr (SqT.of (g3.bh _ _ h)), hl, q _ B3 H3 (g2.trans g3) (.str _)⟩
      · cases e
    | @frl p xs vs o h r =>
      obtain ⟨ss, es, e⟩ := bind_some (show (strsU xs).bind _ = some z from e)
      split at e
      · rename_i hl
        cases e
        have := r.strs es; subst this
        exact ⟨a, p, ss, rfl, rfl, .inl (.inl (.inr ⟨o, g3.bh _ _ h⟩)), hl, q _ B3 H3 (g2.trans g3) (.str _)⟩
      · cases e
    | _ => cases e
  | _ => cases e
/-! xs.index(y), texts -/
def idxS (y : Str) : List Str → Nat → Option Nat
  | [], _ => none
  | s :: r, n => if s = y then some n else idxS y r (n + 1)
theorem idxS_some {y : Str} : ∀ {ss : List Str} {n j : Nat}, idxS y ss n = some j → n ≤ j ∧ ss[j - n]? = some y ∧ ∀ (m : Nat) z, m < j - n → ss[m]? = some z → z ≠ y
  | [], n, j, h => by cases h
  | s :: r, n, j, h => by
    unfold idxS at h
    split at h
    · rename_i e
      cases h
      subst e
      exact ⟨Nat.le_refl _, by simp, fun m z hm => by omega⟩
    · rename_i hn
      obtain ⟨h1, h2, h3⟩ := idxS_some h
      refine ⟨by omega, ?_, fun m z hm hz => ?_⟩
      · have e : j - n = (j - (n + 1)) + 1 := by omega
        rw [e, List.getElem?_cons_succ]; exact h2
      · cases m with
        | zero => simp at hz; subst hz; exact hn
        | succ m => exact h3 m z (by omega) (by simpa using hz)
def indexV : U → U → Option U
  | .lst xs, .str y => (strsU xs).bind fun ss => (idxS y ss 0).map fun j => .int (j : Nat)
  | .frl xs, .str y => (strsU xs).bind fun ss => (idxS y ss 0).map fun j => .int (j : Nat)
  | _, _ => none
theorem index_of {a : Addr} {ss : List Str} {y : Str} {j : Nat} {H : Hp} {Q : VK} (hs : SqL K H a (ss.map V.str)) (ej : idxS y ss 0 = some j) (q : Q (.int (j : Nat)) H) : rIndex K (.ref a) [.str y] H Q := by
  obtain ⟨_, h2, h3⟩ := idxS_some ej
  refine ⟨a, _, .str y, j, .str y, rfl, rfl, hs, rfl, by simp [flatV], by simpa using h2, by simp [eqV], fun m z hm hz => ?_, q⟩
  rw [List.getElem?_map] at hz
  obtain ⟨t, et, hz⟩ := map_some hz
  subst hz
  have := h3 m t (by omega) et
  simp [eqV, this]
theorem eo_index (ha : EvO ta σ B H oa) (hb : EvO tb σ B H ob) : EvO (tBM K "list" (rIndex K) ta (tCons tb tNil)) σ B H (op2 indexV oa ob) := fun z e B1 H1 g Q q => by
  obtain ⟨x, ex, e⟩ := bind_some e
  obtain ⟨y, ey, e⟩ := bind_some e
  refine ha x ex B1 H1 g _ fun v B2 H2 g2 r2 => ?_
  cases r2 with
  | @lst a xs vs h r =>
    cases y with
    | str y =>
      obtain ⟨ss, es, e⟩ := bind_some (show (strsU xs).bind _ = some z from e)
      obtain ⟨j, ej, e⟩ := map_some e
      subst e
      have := r.strs es; subst this
      refine ⟨.inl ⟨rfl, _, SqL.of (g2.bh _ _ h)⟩, hb _ ey B2 H2 (g.trans g2) _ fun w B3 H3 g3 r3 => ?_⟩
      cases r3
      exact index_of (SqL.of (g3.bh _ _ (g3.b _ _ h))) ej (q _ B3 H3 (g2.trans g3) (.int _))
    | _ => cases e
  | @frl a xs vs o h r =>
    cases y with
    | str y =>
      obtain ⟨ss, es, e⟩ := bind_some (show (strsU xs).bind _ = some z from e)
      obtain ⟨j, ej, e⟩ := map_some e
      subst e
      have := r.strs es; subst this
      refine ⟨.inl ⟨rfl, _, .inl (.inr ⟨o, g2.bh _ _ h⟩)⟩, hb _ ey B2 H2 (g.trans g2) _ fun w B3 H3 g3 r3 => ?_⟩
      cases r3
      exact index_of (.inl (.inr ⟨o, g3.bh _ _ (g3.b _ _ h)⟩)) ej (q _ B3 H3 (g2.trans g3) (.int _))
    | _ => cases e
  | _ => cases e
/-! ### objects -/
theorem Rpf.look {B : Hp} (k : Str) : ∀ {xs : List (Str × U)} {vs : List (Str × V)}, Rpf B xs vs → (∀ x, xs.lookup k = some x → ∃ v, vs.lookup k = some v ∧ Rp B x v) ∧ (xs.lookup k = none → vs.lookup k = none)
  | _, _, .nil => ⟨fun x h => (by cases h), fun _ => rfl⟩
  | _, _, @Rpf.cons _ _ k' x v xs vs r t => by
    obtain ⟨i1, i2⟩ := Rpf.look k t
    simp only [List.lookup_cons]
    cases k == k' with
    | true => exact ⟨fun y h => by cases h; exact ⟨v, rfl, r⟩, fun h => by cases h⟩
    | false => exact ⟨i1, i2⟩
/-- x.f of an instance of the class numbered C -/
def fldV (C : Nat) (f : Str) : U → Option U
  | .obj D fs => if D = C then fs.lookup f else none
  | _ => none
theorem eo_fld {C : Nat} {f : Str} (c : Cls K (CTab.ct C)) (n : NoAttr K (CTab.ct C) f) (h : EvO ta σ B H oa) : EvO (tFld K ta f) σ B H (op1 (fldV C f) oa) := fun z e B1 H1 g Q q => by
  obtain ⟨x, ex, e⟩ := bind_some e
  refine h x ex B1 H1 g _ fun v B2 H2 g2 r => ?_
  cases r with
  | @obj a dx D fs es h1 h2 r =>
    have e2 : (if D = C then fs.lookup f else none) = some z := e
    clear e
    split at e2
    · rename_i hD
      subst hD
      obtain ⟨v, ev, rv⟩ := (r.look f).1 z e2
      exact ⟨a, _, dx, es, v, rfl, g2.bh _ _ h1, c, n, ev, q v B2 H2 g2 rv⟩
    · cases e2
  | _ => cases e
/-- x.m(..), which changes nothing -/
def methV (C : Nat) (m : Str) (f : List U → Option U) (x : U) (xs : List U) : Option U := match x with
  | .obj D fs => if D = C ∧ fs.lookup m = none then f (x :: xs) else none
  | _ => none
def noneQ {α : Type} : Option α → Bool
  | none => true
  | some _ => false
def methO (C : Nat) (m : Str) (f : List U → Option U) (a : Option U) (ol : Option (List U)) : Option U := a.bind fun x => match x with
  | .obj D fs => if D = C ∧ noneQ (fs.lookup m) = true then ol.bind fun xs => f (.obj D fs :: xs) else none
  | _ => none
theorem eo_meth {C : Nat} {m : Str} {f : List U → Option U} {E : XK} {tl : TA} {ol : Option (List U)} (h : EvO ta σ B H oa) (hl : EvA tl σ B H ol) : EvO (tMeth (CTab.ct C) m (spU f) [] E ta tl) σ B H (methO C m f oa ol) := fun z e B1 H1 g Q q => by
  obtain ⟨x, ex, e⟩ := bind_some e
  refine h x ex B1 H1 g _ fun v B2 H2 g2 r => ?_
  cases r with
  | @obj a dx D fs es h1 h2 r =>
    have e2 : (if D = C ∧ noneQ (fs.lookup m) = true then ol.bind fun xs => f (.obj D fs :: xs) else none) = some z := e
    clear e
    split at e2
    · rename_i hD
      obtain ⟨hD, hm⟩ := hD
      subst hD
      obtain ⟨xs, exs, e⟩ := bind_some e2
      have hm' : fs.lookup m = none := by
        cases q : fs.lookup m with
        | none => rfl
        | some u => rw [q] at hm; cases hm
      refine ⟨a, dx, es, rfl, g2.bh _ _ h1, (r.look m).2 hm', hl xs exs B2 H2 (g.trans g2) _ fun vs B3 H3 g3 r3 => ?_⟩
      show spU f (.ref a :: (vs ++ [])) H3 Q E
      rw [List.append_nil]
      exact ⟨B3, _, z, g3.bh, .cons ((Rp.obj h1 h2 r).up g3) r3, e, fun v B4 H4 g4 r4 => q v B4 H4 ((g2.trans g3).trans g4) r4⟩
    · cases e2
  | _ => cases e
end
end Dn
set_option Elab.async false
set_option linter.all false
set_option maxRecDepth 100000
set_option maxHeartbeats 2000000
namespace Dn
open PySem L2
variable [CTab]
def U.plc : U → Bool
  | .frl xs => U.pls xs
  | .dic kvs => kvs.all fun kv => kv.2.pl
  | .dit kvs => kvs.all fun kv => kv.2.pl
  | .non => true
  | _ => false
section
variable {B B' : Hp} {p : Addr} {od : Obj} {u0 : HO}
theorem Rpk.erase (hp : B p = some (.frz od u0)) (s : ∀ a o, B a = some o → a ≠ p → B' a = some o) : ∀ {u : List (Key × U)} {v : List (Key × V)}, Rpk B u v → (u.all fun kv => kv.2.pl) = true → Rpk B' u v
  | _, _, .nil, _ => .nil
  | _, _, .cons h r, e => by
    rw [List.all_cons, Bool.and_eq_true] at e
    exact .cons (h.erase hp s e.1) (Rpk.erase hp s r e.2)
theorem Rpt.erase (hp : B p = some (.frz od u0)) (s : ∀ a o, B a = some o → a ≠ p → B' a = some o) : ∀ {u : List (List Key × U)} {v : List (List Key × V)}, Rpt B u v → (u.all fun kv => kv.2.pl) = true → Rpt B' u v
  | _, _, .nil, _ => .nil
  | _, _, .cons h r, e => by
    rw [List.all_cons, Bool.and_eq_true] at e
    exact .cons (h.erase hp s e.1) (Rpt.erase hp s r e.2)
theorem OwnAt.erase {H H2 : Hp} {q : Addr} {u : U} (hp : B p = some (.frz od u0)) (s : ∀ a o, B a = some o → a ≠ p → B' a = some o) (o : OwnAt B H q u) (e : H2 q = H q) (h : u.plc = true) : OwnAt B' H2 q u := by
  cases u with
  | frl xs => obtain ⟨vs, h1, r⟩ := o; exact ⟨vs, e.trans h1, r.erase hp s h⟩
  | dic xs => obtain ⟨vs, h1, r⟩ := o; exact ⟨vs, e.trans h1, r.erase hp s h⟩
  | dit xs => obtain ⟨vs, h1, r⟩ := o; exact ⟨vs, e.trans h1, r.erase hp s h⟩
  | _ => exact o.elim
end
def lockS (j : Nat) (F : U → SM U) : SM U := fun us => us[j]?.bind fun u => if u.own = true then (F u (us.set j .non)).bind fun r => if r.1.pl = true ∧ r.2.all U.plc = true then some (r.1, r.2.set j u) else none else none
section
variable {M : Addr → Prop} {ps : List Addr} {σ : St} {B H : Hp} {ta tb tc te : TE} {t : TT} {tl tr : TA} {F G : SM U} {K : PySem.W.Frag} {j : Nat} {p : Addr}
theorem es_lockS {F : U → SM U} (hp : ps[j]? = some p) (h : ∀ u B', Same B B' → Rp B' u (.ref p) → EvS M ps σ B' te (F u)) : EvS M ps σ B (tLockE te) (lockS j F) := fun us z us' e B1 H1 g w Q q => by
  obtain ⟨u, eu, e⟩ := bind_some e
  split at e
  · rename_i ho
    obtain ⟨⟨z1, us2⟩, ez, e⟩ := bind_some e
    split at e
    · rename_i hz
      cases e
      have wp := w.at_ j p u hp eu
      obtain ⟨hb, ow⟩ := wp.own ho
      obtain ⟨o1, e1, mu, hl⟩ := ow.lock
      refine ⟨p, o1, e1, mu, fun od => ?_⟩
      have r1 : Rp (upd B1 p (.frz od o1)) u (.ref p) := (hl od).resolve_right (fun z => z hb)
      have s1 : Same (upd B1 p (.frz od o1)) (upd H1 p (.frz od o1)) := fun b x hx => by
        by_cases hbp : b = p
        · subst hbp; rw [upd_same] at hx ⊢; exact hx
        · rw [upd_ne hbp] at hx ⊢; exact g.bh b x hx
      have w1 : Ows M (upd B1 p (.frz od o1)) (upd H1 p (.frz od o1)) ps (us.set j .non) :=
        w.set hp (fun q _ hq o e => by rw [upd_ne hq]; exact e) (same_lock hb) (fun q _ hq hn => by rw [upd_ne hq]; exact hn) ⟨wp.m, ⟨_, upd_same⟩, .inl rfl⟩
      refine h u _ (g.b.trans (same_lock hb)) r1 _ _ _ ez _ _ (At.refl s1) w1 _ fun v B2 H2 g2 r2 w2 => ?_
      have eB : B2 p = some (.frz od o1) := g2.b _ _ upd_same
      have eH : H2 p = some (.frz od o1) := g2.bh _ _ eB
      have er : ∀ a o, B2 a = some o → a ≠ p → eraseB B2 p a = some o := fun a x hx ha => by rw [erase_ne ha]; exact hx
      have sB : Same B1 (eraseB B2 p) := fun a x hx => by
        have ha : a ≠ p := ne_of_none hx hb
        rw [erase_ne ha]; exact g2.b a x (by rw [upd_ne ha]; exact hx)
      have gg : Gs (inP ps) B1 H1 (eraseB B2 p) (upd H2 p o1) := by
        refine ⟨fun a x hx hm => ?_, fun a hx => ?_, sB, fun a x hx => ?_, fun a x hx => ?_⟩
        · have ha : a ≠ p := fun z => hm (by rw [z]; exact List.mem_of_getElem? hp)
          rw [upd_ne ha]; exact g2.h a x (by rw [upd_ne ha]; exact hx) hm
        · by_cases ha : a = p
          · subst ha; rw [upd_same] at hx; cases hx
          · rw [upd_ne ha] at hx
            have := g2.n a hx
            rwa [upd_ne ha] at this
        · by_cases ha : a = p
          · subst ha; rw [erase_same] at hx; cases hx
          · rw [erase_ne ha] at hx; rw [upd_ne ha]; exact g2.bh a x hx
        · by_cases ha : a = p
          · subst ha; rw [erase_same] at hx; cases hx
          · rw [erase_ne ha] at hx
            rcases g2.fr a x hx with z | z | z
            · rw [upd_ne ha] at z; exact .inl z
            · rw [upd_ne ha] at z; exact .inr (.inl z)
            · exact .inr (.inr z)
      have hj : j < us2.length := by rw [w2.len]; exact (List.getElem?_eq_some_iff.mp hp).1
      have wf : Ows M (eraseB B2 p) (upd H2 p o1) ps (us2.set j u) := by
        refine ⟨by rw [List.length_set, w2.len], w2.nd, fun i q v hq hv => ?_⟩
        by_cases hij : i = j
        · subst hij
          rw [hp] at hq; cases hq
          rw [List.getElem?_set_self hj] at hv; cases hv
          exact ⟨wp.m, ⟨_, upd_same⟩, .inr ⟨erase_same, ow.up (fun o e => by rw [upd_same, ← e1]; exact e) sB⟩⟩
        · rw [List.getElem?_set_ne (Ne.symm hij)] at hv
          have hne : q ≠ p := fun z => hij (w2.nd i j q hq (by rw [z]; exact hp))
          obtain ⟨q1, ⟨o, q2⟩, q3⟩ := w2.at_ i q v hq hv
          refine ⟨q1, ⟨o, by rw [upd_ne hne]; exact q2⟩, ?_⟩
          rcases q3 with q3 | ⟨q3, q4⟩
          · exact .inl q3
          · refine .inr ⟨by rw [erase_ne hne]; exact q3, q4.erase eB er (upd_ne hne) ?_⟩
            exact List.all_eq_true.mp hz.2 v (List.mem_of_getElem? hv)
      exact ⟨eH, q v _ _ gg (r2.erase eB er hz.1) wf⟩
    · cases e
  · cases e
/-! slices with a state -/
def ptS (F : SM U) : SM (Option Int) := bindS F fun x => pureS (x.asI.map some)
theorem eps_of1 (h : EvS M ps σ B te F) : EvPS M ps σ B (tPart te) (ptS F) := fun us z us' e B1 H1 g w Q q => by
  obtain ⟨x, us1, ex, e⟩ := bindS_some e
  obtain ⟨ee, rfl⟩ := pureS_some e; clear e
  obtain ⟨i, ei, e⟩ := map_some ee
  subst e
  cases x <;> cases ei
  exact h _ _ _ ex B1 H1 g w _ fun v B2 H2 g2 r w2 => by cases r; exact ⟨_, rfl, q B2 H2 g2 w2⟩
def slS (F : SM U) (L Hh : SM (Option Int)) : SM U := bindS F fun x => bindS L fun lo => bindS Hh fun hi => pureS (sliceV x lo hi)
theorem es_slice {tlo thi : TO} {L Hh : SM (Option Int)} (h : EvS M ps σ B te F) (hl : EvPS M ps σ B tlo L) (hh : EvPS M ps σ B thi Hh) : EvS M ps σ B (tSl (rSlU K) te tlo thi) (slS F L Hh) := fun us z us' e B1 H1 g w Q q => by
  obtain ⟨x, us1, ex, e⟩ := bindS_some e
  obtain ⟨lo, us2, el, e⟩ := bindS_some e
  obtain ⟨hi, us3, eh, e⟩ := bindS_some e
  obtain ⟨ee, rfl⟩ := pureS_some e; clear e; have e := ee; clear ee
  refine h _ _ _ ex B1 H1 g w _ fun v B2 H2 g2 r2 w2 => hl _ _ _ el B2 H2 (g.trs g2) w2 _ fun B3 H3 g3 w3 => hh _ _ _ eh B3 H3 ((g.trs g2).trs g3) w3 _ fun B4 H4 g4 w4 => ?_
  have r4 := (r2.upA g3.at).upA g4.at
  have h0 : EvO (fun _ H Q => Q v H) σ B4 H4 (some x) := fun z ez B3 H3 g3 Q q => by cases ez; exact q v B3 H3 (Go.refl g3.bh) (r4.upA g3)
  have h1 : EvP (fun _ H Q => Q lo H) σ B4 H4 (some lo) := fun z ez B3 H3 g3 Q q => by cases ez; exact q B3 H3 (Go.refl g3.bh)
  have h2 : EvP (fun _ H Q => Q hi H) σ B4 H4 (some hi) := fun z ez B3 H3 g3 Q q => by cases ez; exact q B3 H3 (Go.refl g3.bh)
  exact eo_slice (K := K) h0 h1 h2 z (by simpa using e) B4 H4 (At.refl g4.bh) Q fun v5 B5 H5 g5 r5 => q v5 B5 H5 (((g2.trans g3).trans g4).trans (.of g5)) r5 (w4.go g5)
end
section
variable {vs : List V} {H : Hp} {Q : VK} {E : XK}
theorem sn0 {f : Option U} (h : spN (a0 f) vs H Q E) : ∃ B r, vs = [] ∧ Same B H ∧ f = some r ∧ ∀ p B2 H2, Go B H B2 H2 → H p = none → B2 p = none → OwnAt B2 H2 p r → Q (.ref p) H2 := by
  obtain ⟨B, xs, r, s, rs, e, k⟩ := h
  match xs, rs, e with
  | [], .nil, e => exact ⟨B, r, rfl, s, e, k⟩
theorem sn1 {f : U → Option U} (h : spN (a1 f) vs H Q E) : ∃ B x v r, vs = [v] ∧ Same B H ∧ Rp B x v ∧ f x = some r ∧ ∀ p B2 H2, Go B H B2 H2 → H p = none → B2 p = none → OwnAt B2 H2 p r → Q (.ref p) H2 := by
  obtain ⟨B, xs, r, s, rs, e, k⟩ := h
  match xs, rs, e with
  | [x], .cons r1 .nil, e => exact ⟨B, x, _, r, rfl, s, r1, e, k⟩
theorem sn2 {f : U → U → Option U} (h : spN (a2 f) vs H Q E) : ∃ B x y v w r, vs = [v, w] ∧ Same B H ∧ Rp B x v ∧ Rp B y w ∧ f x y = some r ∧ ∀ p B2 H2, Go B H B2 H2 → H p = none → B2 p = none → OwnAt B2 H2 p r → Q (.ref p) H2 := by
  obtain ⟨B, xs, r, s, rs, e, k⟩ := h
  match xs, rs, e with
  | [x, y], .cons r1 (.cons r2 .nil), e => exact ⟨B, x, y, _, _, r, rfl, s, r1, r2, e, k⟩
end
section
variable {α : Type} {R : α × List U} {β : Bs} {σ : St} {B H : Hp} {ps : List Addr} {us : List U} {K : PySem.W.Frag} {ta tb : TE} {tz : TS} {D : Ends} {F G : SM U} {i j : Nat}
theorem g_twoS {u : U} {v : V} {B1 H1 : Hp} {σ : St} {Q : St → Hp → Prop} {f : U → U → SM α} (s : Same B1 H1) (r : Rp B1 u v) (e : unpS u f us = some R) (k : ∀ a b x y, Rp B1 a x → Rp B1 b y → f a b us = some R → Q ((σ.set i (some x)).set j (some y)) H1) :
    gTup K 2 (gCons (gName i) (gCons (gName j) gNil)) v σ H1 Q := by
  obtain ⟨⟨a, b⟩, eu, e⟩ := bind_some e
  exact g_two s r eu fun x y ra rb => k a b x y ra rb e
/-- a, b = two new ones -/
theorem q_parNN {f : SM α} (W : Wh β B H ps us) (ha : EvN β.M ps σ B ta F) (hb : EvN β.M ps σ B tb G) (e : bindS F (fun x => bindS G fun y => addS x (addS y f)) us = some R)
    (k : ∀ p q B1 H1 us1, Wh β B1 H1 (ps ++ [p, q]) us1 → Same B B1 → f us1 = some R → tz D ((σ.set i (some (.ref p))).set j (some (.ref q))) H1) : tSeq (tPar i j (tCons ta (tCons tb tNil))) tz D σ H := by
  obtain ⟨x, us1, ex, e⟩ := bindS_some e
  obtain ⟨y, us2, ey, e⟩ := bindS_some e
  refine ha _ _ _ ex B H W.at W.w _ fun p B2 H2 g2 n2 b2 o2 w2 => hb _ _ _ ey B2 H2 (W.at.trs g2) w2 _ fun q B3 H3 g3 n3 b3 o3 w3 => ⟨_, _, rfl, ?_⟩
  obtain ⟨ob, eb⟩ := o2.ex
  have hnp : p ∉ ps := W.w.fresh n2
  have hpq : q ≠ p := fun z => by rw [z, eb] at n3; cases n3
  have o2' : OwnAt B3 H3 p x := o2.up (fun o e => g3.h p o e hnp) g3.b
  have W1 := W.new (u := x) (g2.trans g3) w3 n2 (g3.noB b2 eb hnp) o2'
  have hq : q ∉ ps ++ [p] := fun z => by
    rcases List.mem_append.mp z with z | z
    · exact w2.fresh n3 z
    · simp at z; exact hpq z
  have W2 : Wh β B3 H3 ((ps ++ [p]) ++ [q]) ((us2 ++ [x]) ++ [y]) := ⟨W1.g, W1.w.add hq ⟨.inr (W.g.n q (g2.n q n3)), o3.ex, .inr ⟨b3, o3⟩⟩, fun r hr => by
    have := W1.hd r hr
    cases ps with
    | nil => simpa using this
    | cons a t => simpa using this⟩
  rw [List.append_assoc] at W2
  exact k p q B3 H3 _ W2 (g2.b.trans g3.b) e
theorem q_parNV {f : U → SM α} (W : Wh β B H ps us) (ha : EvN β.M ps σ B ta F) (hb : EvS β.M ps σ B tb G) (e : bindS F (fun x => bindS G fun y => addS x (f y)) us = some R)
    (k : ∀ p y w B1 H1 us1, Rp B1 y w → Wh β B1 H1 (ps ++ [p]) us1 → Same B B1 → f y us1 = some R → tz D ((σ.set i (some (.ref p))).set j (some w)) H1) : tSeq (tPar i j (tCons ta (tCons tb tNil))) tz D σ H := by
  obtain ⟨x, us1, ex, e⟩ := bindS_some e
  obtain ⟨y, us2, ey, e⟩ := bindS_some e
  refine ha _ _ _ ex B H W.at W.w _ fun p B2 H2 g2 n2 b2 o2 w2 => hb _ _ _ ey B2 H2 (W.at.trs g2) w2 _ fun v B3 H3 g3 r3 w3 => ⟨_, _, rfl, ?_⟩
  obtain ⟨ob, eb⟩ := o2.ex
  have hnp : p ∉ ps := W.w.fresh n2
  have o2' : OwnAt B3 H3 p x := o2.up (fun o e => g3.h p o e hnp) g3.b
  exact k p y v B3 H3 _ r3 (W.new (u := x) (g2.trans g3) w3 n2 (g3.noB b2 eb hnp) o2') (g2.b.trans g3.b) e
theorem q_parVN {f : U → SM α} (W : Wh β B H ps us) (ha : EvS β.M ps σ B ta F) (hb : EvN β.M ps σ B tb G) (e : bindS F (fun y => bindS G fun x => addS x (f y)) us = some R)
    (k : ∀ p y w B1 H1 us1, Rp B1 y w → Wh β B1 H1 (ps ++ [p]) us1 → Same B B1 → f y us1 = some R → tz D ((σ.set i (some w)).set j (some (.ref p))) H1) : tSeq (tPar i j (tCons ta (tCons tb tNil))) tz D σ H := by
  obtain ⟨x, us1, ex, e⟩ := bindS_some e
  obtain ⟨y, us2, ey, e⟩ := bindS_some e
  refine ha _ _ _ ex B H W.at W.w _ fun v B2 H2 g2 r2 w2 => hb _ _ _ ey B2 H2 (W.at.trs g2) w2 _ fun p B3 H3 g3 n3 b3 o3 w3 => ⟨_, _, rfl, ?_⟩
  exact k p x v B3 H3 _ (r2.upA g3.at) (W.new (u := y) (g2.trans g3) w3 (g2.n p n3) b3 o3) (g2.b.trans g3.b) e
end
end Dn
set_option Elab.async false
set_option linter.all false
set_option maxRecDepth 100000
set_option maxHeartbeats 2000000
namespace Dn
open PySem L2
variable [CTab]
/-! ### a, b, c, .. = a list or a tuple -/
def gAnyT (K : PySem.W.Frag) (n : Nat) (t : TGs) : TG := fun v σ H Q => gTup K n t v σ H Q ∨ gUnl K n t v σ H Q
theorem pg_any {X : Cx} {es : List Expr} {k : Nat} {t : TGs} {n : Nat} {pos : Pos} (hc : X.calm = true) (h : PGs X es t)
    (hn : (assignEach es X.env).length = n := by rfl) (hst : (assignEach es X.env).findIdx? (·.1) = none := by rfl) : PG X (.Tuple es k pos) (gAnyT X.K n t) := by
  refine ⟨fun pins s σ H v u Q I r hw => ?_⟩
  rcases hw with hw | hw
  · exact (pg_tup hc h hn hst).run pins s σ H v u Q I r hw
  · exact (pg_unl hc h hn hst).run pins s σ H v u Q I r hw
theorem any_of {K : PySem.W.Frag} {n : Nat} {t : TGs} {u : U} {xs : List U} {v : V} {B H : Hp} {σ : St} {Q : St → Hp → Prop} (s : Same B H) (r : Rp B u v) (e : u.seq = some xs) (hn : xs.length = n) (k : ∀ vs, Rps B xs vs → t vs σ H Q) : gAnyT K n t v σ H Q := by
  cases r with
  | @tup a _ vs e1 r => cases e; exact .inl ⟨a, vs, rfl, SqT.of (s _ _ e1), by rw [r.length]; exact hn, k vs r⟩
  | @lst a _ vs e1 r => cases e; exact .inr ⟨a, vs, rfl, SqL.of (s _ _ e1), by rw [r.length]; exact hn, k vs r⟩
  | @frl a _ vs o e1 r => cases e; exact .inr ⟨a, vs, rfl, .inl (.inr ⟨o, s _ _ e1⟩), by rw [r.length]; exact hn, k vs r⟩
  | _ => cases e
def unpN3 (u : U) : Option (U × U × U) := match u.seq with
  | some [x0, x1, x2] => some (x0, x1, x2)
  | _ => none
def unpF3 {α : Type} (u : U) (f : U → U → U → Option α) : Option α := (unpN3 u).bind fun t => f t.1 t.2.1 t.2.2
def unpS3 {α : Type} (u : U) (f : U → U → U → SM α) : SM α := fun us => (unpN3 u).bind fun t => f t.1 t.2.1 t.2.2 us
theorem g_unp3 {K : PySem.W.Frag} {u x0 x1 x2 : U} {v : V} {B H : Hp} {σ : St} {Q : St → Hp → Prop} {i0 i1 i2 : Nat} (s : Same B H) (r : Rp B u v) (e : unpN3 u = some (x0, x1, x2)) (k : ∀ v0 v1 v2, Rp B x0 v0 → Rp B x1 v1 → Rp B x2 v2 → Q (((σ.set i0 (some v0)).set i1 (some v1)).set i2 (some v2)) H) : gAnyT K 3 (gCons (gName i0) (gCons (gName i1) (gCons (gName i2) gNil))) v σ H Q := by
  unfold unpN3 at e
  split at e
  · rename_i eu
    cases e
    refine any_of s r eu rfl fun vs rs => ?_
    match vs, rs with
    | [v0, v1, v2], .cons r0 (.cons r1 (.cons r2 (.nil))) => exact ⟨_, _, rfl, ⟨_, _, rfl, ⟨_, _, rfl, rfl, k _ _ _ r0 r1 r2⟩⟩⟩
  · cases e
theorem q_unp3 {α : Type} {R : α} {K : PySem.W.Frag} {te : TE} {tz : TS} {D : Ends} {o : Option U} {f : U → U → U → Option α} {B H : Hp} {σ : St} {i0 i1 i2 : Nat} (s : Same B H) (h : EvO te σ B H o) (e : (o.bind fun u => unpF3 u f) = some R) (k : ∀ x0 x1 x2 v0 v1 v2 B1 H1, Go B H B1 H1 → Rp B1 x0 v0 → Rp B1 x1 v1 → Rp B1 x2 v2 → f x0 x1 x2 = some R → tz D (((σ.set i0 (some v0)).set i1 (some v1)).set i2 (some v2)) H1) : tSeq (tAsg te (gAnyT K 3 (gCons (gName i0) (gCons (gName i1) (gCons (gName i2) gNil))))) tz D σ H := by
  obtain ⟨u, eu, e⟩ := bind_some e
  obtain ⟨⟨x0, x1, x2⟩, ex, e⟩ := bind_some e
  exact h u eu B H (At.refl s) _ fun v B2 H2 g2 r2 => g_unp3 g2.bh r2 ex fun v0 v1 v2 r0 r1 r2 => k x0 x1 x2 v0 v1 v2 B2 H2 g2 r0 r1 r2 e
theorem q_unpS3 {α : Type} {R : α × List U} {β : Bs} {K : PySem.W.Frag} {te : TE} {tz : TS} {D : Ends} {F : SM U} {f : U → U → U → SM α} {B H : Hp} {σ : St} {ps : List Addr} {us : List U} {i0 i1 i2 : Nat} (W : Wh β B H ps us) (h : EvS β.M ps σ B te F) (e : bindS F (fun u => unpS3 u f) us = some R) (k : ∀ x0 x1 x2 v0 v1 v2 B1 H1 us1, Wh β B1 H1 ps us1 → Same B B1 → Rp B1 x0 v0 → Rp B1 x1 v1 → Rp B1 x2 v2 → f x0 x1 x2 us1 = some R → tz D (((σ.set i0 (some v0)).set i1 (some v1)).set i2 (some v2)) H1) : tSeq (tAsg te (gAnyT K 3 (gCons (gName i0) (gCons (gName i1) (gCons (gName i2) gNil))))) tz D σ H := by
  obtain ⟨u, us1, eu, e⟩ := bindS_some e
  obtain ⟨⟨x0, x1, x2⟩, ex, e⟩ := bind_some e
  exact h _ _ _ eu B H W.at W.w _ fun v B2 H2 g2 r2 w2 => g_unp3 g2.bh r2 ex fun v0 v1 v2 r0 r1 r2 => k x0 x1 x2 v0 v1 v2 B2 H2 us1 (W.step g2 w2) g2.b r0 r1 r2 e
def unpN4 (u : U) : Option (U × U × U × U) := match u.seq with
  | some [x0, x1, x2, x3] => some (x0, x1, x2, x3)
  | _ => none
def unpF4 {α : Type} (u : U) (f : U → U → U → U → Option α) : Option α := (unpN4 u).bind fun t => f t.1 t.2.1 t.2.2.1 t.2.2.2
def unpS4 {α : Type} (u : U) (f : U → U → U → U → SM α) : SM α := fun us => (unpN4 u).bind fun t => f t.1 t.2.1 t.2.2.1 t.2.2.2 us
theorem g_unp4 {K : PySem.W.Frag} {u x0 x1 x2 x3 : U} {v : V} {B H : Hp} {σ : St} {Q : St → Hp → Prop} {i0 i1 i2 i3 : Nat} (s : Same B H) (r : Rp B u v) (e : unpN4 u = some (x0, x1, x2, x3)) (k : ∀ v0 v1 v2 v3, Rp B x0 v0 → Rp B x1 v1 → Rp B x2 v2 → Rp B x3 v3 → Q ((((σ.set i0 (some v0)).set i1 (some v1)).set i2 (some v2)).set i3 (some v3)) H) : gAnyT K 4 (gCons (gName i0) (gCons (gName i1) (gCons (gName i2) (gCons (gName i3) gNil)))) v σ H Q := by
  unfold unpN4 at e
  split at e
  · rename_i eu
    cases e
    refine any_of s r eu rfl fun vs rs => ?_
    match vs, rs with
    | [v0, v1, v2, v3], .cons r0 (.cons r1 (.cons r2 (.cons r3 (.nil)))) => exact ⟨_, _, rfl, ⟨_, _, rfl, ⟨_, _, rfl, ⟨_, _, rfl, rfl, k _ _ _ _ r0 r1 r2 r3⟩⟩⟩⟩
  · cases e
theorem q_unp4 {α : Type} {R : α} {K : PySem.W.Frag} {te : TE} {tz : TS} {D : Ends} {o : Option U} {f : U → U → U → U → Option α} {B H : Hp} {σ : St} {i0 i1 i2 i3 : Nat} (s : Same B H) (h : EvO te σ B H o) (e : (o.bind fun u => unpF4 u f) = some R) (k : ∀ x0 x1 x2 x3 v0 v1 v2 v3 B1 H1, Go B H B1 H1 → Rp B1 x0 v0 → Rp B1 x1 v1 → Rp B1 x2 v2 → Rp B1 x3 v3 → f x0 x1 x2 x3 = some R → tz D ((((σ.set i0 (some v0)).set i1 (some v1)).set i2 (some v2)).set i3 (some v3)) H1) : tSeq (tAsg te (gAnyT K 4 (gCons (gName i0) (gCons (gName i1) (gCons (gName i2) (gCons (gName i3) gNil)))))) tz D σ H := by
  obtain ⟨u, eu, e⟩ := bind_some e
  obtain ⟨⟨x0, x1, x2, x3⟩, ex, e⟩ := bind_some e
  exact h u eu B H (At.refl s) _ fun v B2 H2 g2 r2 => g_unp4 g2.bh r2 ex fun v0 v1 v2 v3 r0 r1 r2 r3 => k x0 x1 x2 x3 v0 v1 v2 v3 B2 H2 g2 r0 r1 r2 r3 e
theorem q_unpS4 {α : Type} {R : α × List U} {β : Bs} {K : PySem.W.Frag} {te : TE} {tz : TS} {D : Ends} {F : SM U} {f : U → U → U → U → SM α} {B H : Hp} {σ : St} {ps : List Addr} {us : List U} {i0 i1 i2 i3 : Nat} (W : Wh β B H ps us) (h : EvS β.M ps σ B te F) (e : bindS F (fun u => unpS4 u f) us = some R) (k : ∀ x0 x1 x2 x3 v0 v1 v2 v3 B1 H1 us1, Wh β B1 H1 ps us1 → Same B B1 → Rp B1 x0 v0 → Rp B1 x1 v1 → Rp B1 x2 v2 → Rp B1 x3 v3 → f x0 x1 x2 x3 us1 = some R → tz D ((((σ.set i0 (some v0)).set i1 (some v1)).set i2 (some v2)).set i3 (some v3)) H1) : tSeq (tAsg te (gAnyT K 4 (gCons (gName i0) (gCons (gName i1) (gCons (gName i2) (gCons (gName i3) gNil)))))) tz D σ H := by
  obtain ⟨u, us1, eu, e⟩ := bindS_some e
  obtain ⟨⟨x0, x1, x2, x3⟩, ex, e⟩ := bind_some e
  exact h _ _ _ eu B H W.at W.w _ fun v B2 H2 g2 r2 w2 => g_unp4 g2.bh r2 ex fun v0 v1 v2 v3 r0 r1 r2 r3 => k x0 x1 x2 x3 v0 v1 v2 v3 B2 H2 us1 (W.step g2 w2) g2.b r0 r1 r2 r3 e
def unpN5 (u : U) : Option (U × U × U × U × U) := match u.seq with
  | some [x0, x1, x2, x3, x4] => some (x0, x1, x2, x3, x4)
  | _ => none
def unpF5 {α : Type} (u : U) (f : U → U → U → U → U → Option α) : Option α := (unpN5 u).bind fun t => f t.1 t.2.1 t.2.2.1 t.2.2.2.1 t.2.2.2.2
def unpS5 {α : Type} (u : U) (f : U → U → U → U → U → SM α) : SM α := fun us => (unpN5 u).bind fun t => f t.1 t.2.1 t.2.2.1 t.2.2.2.1 t.2.2.2.2 us
theorem g_unp5 {K : PySem.W.Frag} {u x0 x1 x2 x3 x4 : U} {v : V} {B H : Hp} {σ : St} {Q : St → Hp → Prop} {i0 i1 i2 i3 i4 : Nat} (s : Same B H) (r : Rp B u v) (e : unpN5 u = some (x0, x1, x2, x3, x4)) (k : ∀ v0 v1 v2 v3 v4, Rp B x0 v0 → Rp B x1 v1 → Rp B x2 v2 → Rp B x3 v3 → Rp B x4 v4 → Q (((((σ.set i0 (some v0)).set i1 (some v1)).set i2 (some v2)).set i3 (some v3)).set i4 (some v4)) H) : gAnyT K 5 (gCons (gName i0) (gCons (gName i1) (gCons (gName i2) (gCons (gName i3) (gCons (gName i4) gNil))))) v σ H Q := by
  unfold unpN5 at e
  split at e
  · rename_i eu
    cases e
    refine any_of s r eu rfl fun vs rs => ?_
    match vs, rs with
    | [v0, v1, v2, v3, v4], .cons r0 (.cons r1 (.cons r2 (.cons r3 (.cons r4 (.nil))))) => exact ⟨_, _, rfl, ⟨_, _, rfl, ⟨_, _, rfl, ⟨_, _, rfl, ⟨_, _, rfl, rfl, k _ _ _ _ _ r0 r1 r2 r3 r4⟩⟩⟩⟩⟩
  · cases e
theorem q_unp5 {α : Type} {R : α} {K : PySem.W.Frag} {te : TE} {tz : TS} {D : Ends} {o : Option U} {f : U → U → U → U → U → Option α} {B H : Hp} {σ : St} {i0 i1 i2 i3 i4 : Nat} (s : Same B H) (h : EvO te σ B H o) (e : (o.bind fun u => unpF5 u f) = some R) (k : ∀ x0 x1 x2 x3 x4 v0 v1 v2 v3 v4 B1 H1, Go B H B1 H1 → Rp B1 x0 v0 → Rp B1 x1 v1 → Rp B1 x2 v2 → Rp B1 x3 v3 → Rp B1 x4 v4 → f x0 x1 x2 x3 x4 = some R → tz D (((((σ.set i0 (some v0)).set i1 (some v1)).set i2 (some v2)).set i3 (some v3)).set i4 (some v4)) H1) : tSeq (tAsg te (gAnyT K 5 (gCons (gName i0) (gCons (gName i1) (gCons (gName i2) (gCons (gName i3) (gCons (gName i4) gNil))))))) tz D σ H := by
  obtain ⟨u, eu, e⟩ := bind_some e
  obtain ⟨⟨x0, x1, x2, x3, x4⟩, ex, e⟩ := bind_some e
  exact h u eu B H (At.refl s) _ fun v B2 H2 g2 r2 => g_unp5 g2.bh r2 ex fun v0 v1 v2 v3 v4 r0 r1 r2 r3 r4 => k x0 x1 x2 x3 x4 v0 v1 v2 v3 v4 B2 H2 g2 r0 r1 r2 r3 r4 e
theorem q_unpS5 {α : Type} {R : α × List U} {β : Bs} {K : PySem.W.Frag} {te : TE} {tz : TS} {D : Ends} {F : SM U} {f : U → U → U → U → U → SM α} {B H : Hp} {σ : St} {ps : List Addr} {us : List U} {i0 i1 i2 i3 i4 : Nat} (W : Wh β B H ps us) (h : EvS β.M ps σ B te F) (e : bindS F (fun u => unpS5 u f) us = some R) (k : ∀ x0 x1 x2 x3 x4 v0 v1 v2 v3 v4 B1 H1 us1, Wh β B1 H1 ps us1 → Same B B1 → Rp B1 x0 v0 → Rp B1 x1 v1 → Rp B1 x2 v2 → Rp B1 x3 v3 → Rp B1 x4 v4 → f x0 x1 x2 x3 x4 us1 = some R → tz D (((((σ.set i0 (some v0)).set i1 (some v1)).set i2 (some v2)).set i3 (some v3)).set i4 (some v4)) H1) : tSeq (tAsg te (gAnyT K 5 (gCons (gName i0) (gCons (gName i1) (gCons (gName i2) (gCons (gName i3) (gCons (gName i4) gNil))))))) tz D σ H := by
  obtain ⟨u, us1, eu, e⟩ := bindS_some e
  obtain ⟨⟨x0, x1, x2, x3, x4⟩, ex, e⟩ := bind_some e
  exact h _ _ _ eu B H W.at W.w _ fun v B2 H2 g2 r2 w2 => g_unp5 g2.bh r2 ex fun v0 v1 v2 v3 v4 r0 r1 r2 r3 r4 => k x0 x1 x2 x3 x4 v0 v1 v2 v3 v4 B2 H2 us1 (W.step g2 w2) g2.b r0 r1 r2 r3 r4 e
end Dn
set_option Elab.async false
set_option linter.all false
set_option maxRecDepth 100000
set_option maxHeartbeats 2000000
namespace Dn
open PySem PySem.Spec PyProof.Rows L2
variable [CTab]
/-! ### calls by keywords alone -/
section
variable {X : Cx} {CX : CXT} {k : Nat} {f : Addr} {fd : FuncData} {ps ks : List Str} {sp : Sp} {E : XK} {x : Str} {p pos : Pos} {kws : List Keyword} {tk : TA} {g : List Value → List Value → List Value} {gV : List V → List V → List V}
theorem pe_callN0 (F : FnOk X.prog X.w X.K X.mg X.base CX k f fd ps sp) (hr : Room k X.A) (hg : Gl X x) (hm : X.mg x = some (.ref f)) (hk : PySem.W.keepIn X.K (.ref f) = true) (hb : KBn X.K fd ps 0 ks g gV) (hx : Passes CX X E)
    (hkw : PK X kws tk) (hall : (backToKw pos (keywordEach kws X.env)).all (·.1.isSome) = true := by rfl) (hks : (backToKw pos (keywordEach kws X.env)).filterMap (·.1) = ks := by rfl)
    (hdb : (x == ("__debug__" : Str)) = false := by decide)
    (hpl : ((backTo pos (starEach [] X.env)).any (·.1) || (backToKw pos (keywordEach kws X.env)).any (·.1.isNone)) = false := by rfl) :
    PE X (.Call (.Name x p) [] kws pos) (tCallN 0 ks.length sp gV E tNil tk) := by
  refine ⟨fun pins s σ H Q I h => ?_⟩
  refine wpAny_Call_Name_kw (ld_glob I hg hm ?_ hdb)
  refine PySem.W.callWith_KW0 (h₀ := X.base) I.ok.mod.kin hk hall (thn (hkw.run pos pins s σ H _ I h) fun ws s2 ⟨zs, H2, I2, rz, l1, l2, q2⟩ => ⟨I2.kIn, ?_⟩) hpl
  rw [hks]
  exact run_fnN F hr hb hx I2 .nil rz l1 l2 q2
end
theorem Vals.reverse : ∀ {vs : List V} {us : List Value}, Vals vs us → Vals vs.reverse us.reverse
  | _, _, .nil => .nil
  | _, _, .cons h t => by
    rw [List.reverse_cons, List.reverse_cons]
    exact (Vals.reverse t).append (.cons h .nil)
theorem Rps.reverse {B : Hp} : ∀ {xs : List U} {vs : List V}, Rps B xs vs → Rps B xs.reverse vs.reverse
  | _, _, .nil => .nil
  | _, _, .cons h t => by
    rw [List.reverse_cons, List.reverse_cons]
    exact (Rps.reverse t).append (.cons h .nil)
/-- two keywords, written the other way round -/
theorem kb2r {K : PySem.W.Frag} {x qual : Str} {st : Stmt} {f : Addr} {fd : FuncData} {p1 p2 : Str} (F : Fun K x qual st f fd)
    (h : ∀ (kV doc pm : Value) (an : Option Addr) (cdv ct u v : Value), bindArgs (PySem.W.fnOf x qual (defArgs st) (defBody st) (defScope st) .none kV doc pm an cdv ct) ⟨[], [(p2, u), (p1, v)]⟩ = pure [(p1, v), (p2, u)]) :
    KBn K fd [p1, p2] 0 [p2, p1] (fun _ ws => ws.reverse) (fun _ zs => zs.reverse) := by
  obtain ⟨oc, od, kV, doc, pm, an, cdv, ct, osl, rfl, lk, hcd⟩ := F.ex
  refine ⟨fun s us ws X l1 l2 => ?_, fun r1 r2 => Vals.reverse r2⟩
  match us, ws, l1, l2 with
  | [], [u, v], _, _ => exact BindsTo.of_eq (h kV doc pm an cdv ct u v)
section
variable {σ : L2.St} {B H : Hp} {E : XK} {tk : TA}
theorem eo_callR {m : List U → Option U} {n : Nat} {ol : Option (List U)} (h : EvA tk σ B H ol) : EvO (tCallN 0 n (spU m) (fun _ zs => zs.reverse) E tNil tk) σ B H (callO (fun xs => if xs.length = n then m xs.reverse else none) ol) := fun z e B1 H1 g Q q => by
  obtain ⟨x, ex, e⟩ := bind_some e
  split at e
  · rename_i hn
    exact h x ex B1 H1 g _ fun vs B2 H2 g2 r => ⟨rfl, by rw [r.length]; exact hn, B2, _, z, g2.bh, r.reverse, e, fun v B3 H3 g3 r3 => q v B3 H3 (g2.trans g3) r3⟩
  · cases e
end
/-! ### sum of a list or a tuple of ints -/
theorem sum_tup {prog : Program} {w : World} {A : Around} {E : Value → Shared → Prop} {s : Shared} {l : Addr} {its : List Value} {ns : List Int} {Q : Value → Shared → Prop} (hh : A.handled = none) (hl : s.heap.IsTuple l its.toArray) (hi : PyProof.Rows.IntsAre its ns)
    (h : ∀ h' tk t', (∀ b o, s.heap.get? b = some o → h'.get? b = some o) → Q (.int ns.sum t') { s with heap := h', toks := tk }) : wpAny (model prog w) A (call (.builtin "sum") [.ref l]) Q E s := by
  obtain ⟨xs, e⟩ := hi.allInts.items
  have hn : numsOf (intItems xs).toList = ns := by rw [← e]; exact hi.numsOf
  rw [nums_intItems] at hn
  rw [e] at hl
  have hlt : l < s.heap.objs.size := by obtain ⟨_, e, _⟩ := hl; exact Heap.lt_size e
  refine call_sum_walkG (wpAny_pyIter_tuple hl ?_)
  refine ⟨_, _, _, _, _, _, numAt xs, rfl, Walks.tuple (A := A.in1) hh _ l (Nat.ne_of_lt hlt) (intItems xs), ⟨⟨_, Heap.get?_push_size _ rfl, rfl, rfl⟩, hl.at fun o e => Heap.get?_push_of_some _ e⟩, fun b hb => ?_, (fun _ _ => intItems_at), fun h' tk t' hk => ?_⟩
  · show b < (s.heap.push _).objs.size
    rw [Heap.size_push]
    rcases List.mem_cons.mp hb with rfl | hb
    · exact Nat.lt_succ_self _
    · rcases List.mem_cons.mp hb with rfl | hb
      · exact Nat.lt_succ_of_lt hlt
      · cases hb
  · have := h h' tk t' (fun b o e => hk b o (fun z => by simp at z; subst z; exact absurd (Heap.lt_size e) (Nat.lt_irrefl _)) (Heap.get?_push_of_some _ e))
    rw [← hn] at this
    rw [preSum_eq, List.take_of_length_le (by simp [intItems])]; exact this
theorem cr_sumT {X : Cx} (hc : X.calm = true) : CallR X (.builtin "sum") (fun vs H Q => ∃ (a : Addr) (ns : List Int), vs = [V.ref a] ∧ SqT X.K H a (ns.map V.int) ∧ Q (.int ns.sum) H) := by
  intro pins s σ H vs us Q I r h
  obtain ⟨a, ns, rfl, hs, q⟩ := h
  obtain ⟨its, rv, hl, _⟩ := I.tuple hs
  rw [Vals.ref1 r]
  exact sum_tup (I.ok.hd hc) hl rv.ints fun h' tk t' hk => ⟨.int _, H, I.kept hk, ⟨_, rfl⟩, q⟩
def rSumA (K : PySem.W.Frag) : List V → Hp → VK → Prop := fun vs H Q => rSum K vs H Q ∨ ∃ (a : Addr) (ns : List Int), vs = [V.ref a] ∧ SqT K H a (ns.map V.int) ∧ Q (.int ns.sum) H
theorem call_sumA {X : Cx} (hc : X.calm = true) : CallR X (.builtin "sum") (rSumA X.K) := CallR.or (cr_sum hc) (cr_sumT hc)
def sumA : U → Option U
  | .lst xs => (intsU xs).map fun bs => .int bs.sum
  | .tup xs => (intsU xs).map fun bs => .int bs.sum
  | .frl xs => (intsU xs).map fun bs => .int bs.sum
  | _ => none
theorem rc_sumA {K : PySem.W.Frag} : RC (rSumA K) (c1 sumA) := rc_one c1_one fun x z e v B H s rx Q q => by
  cases rx with
  | @lst a xs vs h r =>
    obtain ⟨bs, eb, e⟩ := map_some (show (intsU xs).map _ = some z from e)
    subst e
    have := r.intsOf eb; subst this
    exact .inl ⟨a, bs, rfl, SqL.of (s _ _ h), q _ B H (Go.refl s) (.int _)⟩
  | @frl a xs vs o h r =>
    obtain ⟨bs, eb, e⟩ := map_some (show (intsU xs).map _ = some z from e)
    subst e
    have := r.intsOf eb; subst this
    exact .inl ⟨a, bs, rfl, .inl (.inr ⟨o, s _ _ h⟩), q _ B H (Go.refl s) (.int _)⟩
  | @tup a xs vs h r =>
    obtain ⟨bs, eb, e⟩ := map_some (show (intsU xs).map _ = some z from e)
    subst e
    have := r.intsOf eb; subst this
    exact .inr ⟨a, bs, rfl, SqT.of (s _ _ h), q _ B H (Go.refl s) (.int _)⟩
  | _ => cases e
/-! ### tests that look at one's own object -/
def tLockT (t : TT) : TT := fun σ H Q => ∃ d u, H d = some u ∧ Mut (some u) ∧ ∀ od, t σ (upd H d (.frz od u)) fun b H' => H' d = some (.frz od u) ∧ Q b (upd H' d u)
theorem pt_lock {X : Cx} {e : Expr} {t : TT} (h : PT X e t) : PT X e (tLockT t) := by
  refine ⟨fun pins s σ H Q I hw => ?_⟩
  obtain ⟨d, u, hd, mu, hw⟩ := hw
  obtain ⟨od, I1⟩ := I.lock hd mu
  refine thn (h.run pins s σ _ _ I1 (hw od)) fun b s1 ⟨H1, I2, e2, q⟩ => ?_
  exact ⟨_, I2.unlock e2 (I.nofrz hd mu), q⟩
section
variable {M : Addr → Prop} {ps : List Addr} {σ : L2.St} {B H : Hp} {t : TT} {j : Nat} {p : Addr}
theorem ets_lockT {o : U → Option Bool} (hp : ps[j]? = some p) (h : ∀ u B' H', Same B B' → Rp B' u (.ref p) → EvT t σ B' H' (o u)) : EvTS M ps σ B (tLockT t) (lockT j o) := fun us z us' e B1 H1 g w Q q => by
  obtain ⟨u, eu, e⟩ := bind_some e
  split at e
  · rename_i ho
    obtain ⟨z1, ez, e⟩ := map_some e
    cases e
    obtain ⟨hb, ow⟩ := (w.at_ j p u hp eu).own ho
    obtain ⟨o1, e1, mu, hl⟩ := ow.lock
    refine ⟨p, o1, e1, mu, fun od => ?_⟩
    have r1 : Rp (upd B1 p (.frz od o1)) u (.ref p) := (hl od).resolve_right (fun z => z hb)
    have s1 : Same (upd B1 p (.frz od o1)) (upd H1 p (.frz od o1)) := fun b x hx => by
      by_cases hbp : b = p
      · subst hbp; rw [upd_same] at hx ⊢; exact hx
      · rw [upd_ne hbp] at hx ⊢; exact g.bh b x hx
    refine h u _ (upd H1 p (.frz od o1)) (g.b.trans (same_lock hb)) r1 z ez _ _ (At.refl s1) _ fun B2 H2 g2 => ?_
    have eB : B2 p = some (.frz od o1) := g2.b _ _ upd_same
    have eH : H2 p = some (.frz od o1) := g2.bh _ _ eB
    have gg : Go B1 H1 (eraseB B2 p) (upd H2 p o1) := by
      refine ⟨fun a x hx => ?_, fun a x hx => ?_, fun a x hx => ?_, fun a x hx => ?_⟩
      · by_cases ha : a = p
        · subst ha; rw [upd_same, ← e1]; exact hx
        · rw [upd_ne ha]; exact g2.h a x (by rw [upd_ne ha]; exact hx)
      · have ha : a ≠ p := ne_of_none hx hb
        rw [erase_ne ha]; exact g2.b a x (by rw [upd_ne ha]; exact hx)
      · by_cases ha : a = p
        · subst ha; rw [erase_same] at hx; cases hx
        · rw [erase_ne ha] at hx; rw [upd_ne ha]; exact g2.bh a x hx
      · by_cases ha : a = p
        · subst ha; rw [erase_same] at hx; cases hx
        · rw [erase_ne ha] at hx
          rcases g2.fr a x hx with z | z
          · rw [upd_ne ha] at z; exact .inl z
          · rw [upd_ne ha] at z; exact .inr z
    exact ⟨eH, q _ _ (.of gg) (w.go gg)⟩
  · cases e
end
end Dn
set_option Elab.async false
set_option linter.all false
set_option maxRecDepth 100000
set_option maxHeartbeats 2000000
namespace Dn
open PySem PySem.Spec PyProof.Rows L2
variable [CTab]
/-! ### the rules with the module's part named -/
section
variable {X : Cx} {K : PySem.W.Frag} {a b e o : Expr} {ta tb te to : TE} {pos : Pos}
theorem ix_anyK (hK : X.K = K) (hu : X.A.units + 64 < cLine) : IxR X (rIxA K) := hK ▸ ix_any hu
theorem call_lenK (hK : X.K = K) : CallR X (.builtin "len") (rLenA K) := hK ▸ call_lenA
theorem cr_allK (hK : X.K = K) (hc : X.calm = true) : CallR X (.builtin "all") (rAll K) := hK ▸ cr_all hc
theorem cr_anyK (hK : X.K = K) (hc : X.calm = true) : CallR X (.builtin "any") (rAny K) := hK ▸ cr_any hc
theorem call_sumK (hK : X.K = K) (hc : X.calm = true) : CallR X (.builtin "sum") (rSumA K) := hK ▸ call_sumA hc
def rListB (K : PySem.W.Frag) : List V → Hp → VK → Prop := fun xs H Q => (∃ p ys, xs = [V.ref p] ∧ (SqL K H p ys ∨ SqT K H p ys) ∧ ∀ l, H l = none → Q (.ref l) (upd H l (.lst ys))) ∨
    ∃ (a : Addr) (kvs : List (Key × V)), xs = [V.ref a] ∧ Rd H a (.dK kvs) ∧ ∀ p, H p = none → Q (.ref p) (upd H p (.lst (kvs.map fun kv => kV kv.1)))
theorem call_listK (hK : X.K = K) (hc : X.calm = true) : CallR X (.type "list") (rListB K) := hK ▸ call_listB hc
theorem rc_listK : RC (rListB K) (c1 listB) := rc_listB
theorem call_tupleK (hK : X.K = K) : CallR X (.type "tuple") (rTupleA K) := hK ▸ call_tuple_of
theorem op_addK (hK : X.K = K) : OpR X (binaryOp .Add) (rAddU K) := hK ▸ op_addU
theorem sl_anyK (hK : X.K = K) : SlR X (rSlU K) := hK ▸ sl_any
theorem call_isiKK (hK : X.K = K) : CallR X (.builtin "isinstance") (rIsi K) := hK ▸ call_isi
theorem pi_anyK {tg : Expr} (hK : X.K = K) (h : PE X e te) : PI X tg e (iAny K te) := hK ▸ pi_any h
theorem pi_zipK {p pos tpos : Pos} {elts : List Expr} {kk : Nat} (hK : X.K = K) (hg : Gl X "zip") (hm : X.mg "zip" = none) (h1 : PE X a ta) (h2 : PE X b tb)
    (he1 : starEach [a, b] X.env = (false, eval a X.env) :: starEach [b] X.env := by rfl) (he2 : starEach [b] X.env = (false, eval b X.env) :: starEach [] X.env := by rfl) (hpl : (backTo pos (starEach [b] X.env)).any (·.1) = false := by rfl) :
    PI X (.Tuple elts kk tpos) (.Call (.Name "zip" p) [a, b] [] pos) (iZipU K (tCons ta (tCons tb tNil))) := hK ▸ pi_zipU hg hm h1 h2 he1 he2 hpl
theorem pe_fldK {f : Str} (hK : X.K = K) (he : PE X e te) (hb : attributeBase e f X.env (eval e X.env) = eval e X.env := by rfl) : PE X (.Attribute e f pos) (tFld K te f) := hK ▸ pe_fld he hb
theorem pe_joinK {apos pos : Pos} (hK : X.K = K) (ho : PE X o to) (he : PE X e te) (hs : starEach [e] X.env = [(false, eval e X.env)] := by rfl) (hbase : attributeBase o "join" X.env (eval o X.env) = eval o X.env := by rfl) (hline : (apos.endLine == pos.line) = true := by rfl) :
    PE X (.Call (.Attribute o "join" apos) [e] [] pos) (tM1 (fun x xs H Q => ∃ a p, ∃ ys : List Str, x = .str a ∧ xs = [.ref p] ∧ (SqL K H p (ys.map V.str) ∨ SqT K H p (ys.map V.str)) ∧
      (ys.map (·.length)).sum + ys.length * a.length ≤ 16777216 ∧ Q (.str (Txt.join a ys)) H) to te) := hK ▸ pe_join ho he hs hbase hline
section
variable {es : List Expr} {t : TA} {apos cpos : Pos}
theorem pe_appK (hK : X.K = K) (ho : PE X o to) (ha : PA X (e :: es) t) (hbase : attributeBase o "append" X.env (eval o X.env) = eval o X.env := by rfl)
    (hfew : ((backTo cpos (starEach (e :: es) X.env)).all (fun x => !x.1) && (backToKw cpos (keywordEach [] X.env)).all (fun x => x.1.isSome)
      && decide ((e :: es).length + ([] : List Keyword).length + (if ([] : List Keyword).isEmpty then 0 else 1) < 30)) = true := by rfl)
    (hline : (apos.endLine == cpos.line) = true := by rfl) (hs : starEach (e :: es) X.env = (false, eval e X.env) :: starEach es X.env := by rfl) (hplain : (backTo cpos (starEach es X.env)).any (·.1) = false := by rfl) :
    PE X (.Call (.Attribute o "append" apos) (e :: es) [] cpos) (tBM K "list" rAppend to t) := hK ▸ pe_bm PySem.F.plainAttrs_list PySem.F.slot_list_append PySem.F.type_list_append mt_append ho ha hbase hfew hline hs hplain
theorem pe_popK (hK : X.K = K) (ho : PE X o to) (ha : PA X (e :: es) t) (hbase : attributeBase o "pop" X.env (eval o X.env) = eval o X.env := by rfl)
    (hfew : ((backTo cpos (starEach (e :: es) X.env)).all (fun x => !x.1) && (backToKw cpos (keywordEach [] X.env)).all (fun x => x.1.isSome)
      && decide ((e :: es).length + ([] : List Keyword).length + (if ([] : List Keyword).isEmpty then 0 else 1) < 30)) = true := by rfl)
    (hline : (apos.endLine == cpos.line) = true := by rfl) (hs : starEach (e :: es) X.env = (false, eval e X.env) :: starEach es X.env := by rfl) (hplain : (backTo cpos (starEach es X.env)).any (·.1) = false := by rfl) :
    PE X (.Call (.Attribute o "pop" apos) (e :: es) [] cpos) (tBM K "list" rPopAt to t) := hK ▸ pe_bm PySem.F.plainAttrs_list PySem.F.slot_list_pop PySem.F.type_list_pop mt_popAt ho ha hbase hfew hline hs hplain
theorem pe_indexK (hK : X.K = K) (ho : PE X o to) (ha : PA X (e :: es) t) (hbase : attributeBase o "index" X.env (eval o X.env) = eval o X.env := by rfl)
    (hfew : ((backTo cpos (starEach (e :: es) X.env)).all (fun x => !x.1) && (backToKw cpos (keywordEach [] X.env)).all (fun x => x.1.isSome)
      && decide ((e :: es).length + ([] : List Keyword).length + (if ([] : List Keyword).isEmpty then 0 else 1) < 30)) = true := by rfl)
    (hline : (apos.endLine == cpos.line) = true := by rfl) (hs : starEach (e :: es) X.env = (false, eval e X.env) :: starEach es X.env := by rfl) (hplain : (backTo cpos (starEach es X.env)).any (·.1) = false := by rfl) :
    PE X (.Call (.Attribute o "index" apos) (e :: es) [] cpos) (tBM K "list" (rIndex K) to t) := hK ▸ pe_bm PySem.F.plainAttrs_list PySem.F.slot_list_index PySem.F.type_list_index mt_index ho ha hbase hfew hline hs hplain
end
theorem pg_tupK {es : List Expr} {k : Nat} {t : TGs} {n : Nat} (hK : X.K = K) (hc : X.calm = true) (h : PGs X es t)
    (hn : (assignEach es X.env).length = n := by rfl) (hst : (assignEach es X.env).findIdx? (·.1) = none := by rfl) : PG X (.Tuple es k pos) (gTup K n t) := hK ▸ pg_tup hc h hn hst
theorem pg_anyK {es : List Expr} {k : Nat} {t : TGs} {n : Nat} (hK : X.K = K) (hc : X.calm = true) (h : PGs X es t)
    (hn : (assignEach es X.env).length = n := by rfl) (hst : (assignEach es X.env).findIdx? (·.1) = none := by rfl) : PG X (.Tuple es k pos) (gAnyT K n t) := hK ▸ pg_any hc h hn hst
end
end Dn
set_option Elab.async false
set_option linter.all false
set_option maxRecDepth 100000
set_option maxHeartbeats 2000000
namespace Dn
open PySem L2
variable [CTab]
/-- while: R by what is left of the turns -/
theorem q_whileS {α : Type} {RR : α × List U} {β : Bs} {c : TT} {tu tz : TS} {D : Ends} {σ : L2.St} {H : Hp} {n : Nat} (R : Nat → L2.St → Hp → Prop) (h0 : R n σ H)
    (hs : ∀ m σ' H', R m σ' H' → ∃ k B ps us, ∃ (cF : SM Bool) (m1 m2 : SM α), m = k + 1 ∧ Wh β B H' ps us ∧ EvTS β.M ps σ' B c cF ∧ ifS cF m1 m2 us = some RR ∧
      (∀ B1 H1 us1, Wh β B1 H1 ps us1 → Same B B1 → m1 us1 = some RR → tu { D with nx := R k, ct := R k, bk := tz D } σ' H1) ∧ (∀ B1 H1 us1, Wh β B1 H1 ps us1 → Same B B1 → m2 us1 = some RR → tz D σ' H1)) : tSeq (tWhile c tu) tz D σ H := by
  refine ⟨R, ⟨n, h0⟩, fun m σ' H' r => ?_⟩
  obtain ⟨k, B, ps, us, cF, m1, m2, rfl, W, ht, e, h1, h2⟩ := hs m σ' H' r
  obtain ⟨b, us1, eb, e⟩ := bindS_some e
  refine ht _ _ _ eb B H' W.at W.w _ fun B2 H2 g2 w2 => ?_
  cases b with
  | true => exact ⟨R k, fun σ2 H3 r2 => ⟨k, Nat.lt_succ_self k, r2⟩, h1 B2 H2 us1 (W.step g2 w2) g2.b e⟩
  | false => exact h2 B2 H2 us1 (W.step g2 w2) g2.b e
end Dn
set_option Elab.async false
set_option linter.all false
set_option maxRecDepth 100000
set_option maxHeartbeats 2000000
namespace Dn
open PySem L2
variable [CTab]
def U.flat : U → Bool
  | .non | .bl _ | .int _ | .str _ => true
  | _ => false
theorem Rp.flat {B B' : Hp} {u : U} {v : V} (r : Rp B u v) (h : u.flat = true) : Rp B' u v := by
  cases r with
  | non => exact .non
  | bl b => exact .bl b
  | int b => exact .int b
  | str b => exact .str b
  | _ => cases h
/-! ### locked for good ahead of an expression -/
def tFrzA (t : TE) : TE := fun σ H Q => ∃ d u, H d = some u ∧ Mut (some u) ∧ ∀ od, t σ (upd H d (.frz od u)) Q
theorem pe_frzA {X : Cx} {e : Expr} {t : TE} (h : PE X e t) : PE X e (tFrzA t) := by
  refine ⟨fun pins s σ H Q I hw => ?_⟩
  obtain ⟨d, u, hd, mu, hw⟩ := hw
  obtain ⟨od, I1⟩ := I.lock hd mu
  exact h.run pins s σ _ _ I1 (hw od)
/-! ### a web being made: an object with two dicts, the second one of lists -/
def plU (org : List (Key × U)) (mad : List (Key × List U)) : U := .obj 0 [("origins", .dic org), ("made", .dic (mad.map fun km => (km.1, .lst km.2)))]
abbrev plF (o m : Addr) : List (Str × V) := [("origins", .ref o), ("made", .ref m)]
abbrev plA (x dx o m : Addr) (ls : List Addr) : List Addr := x :: dx :: o :: m :: ls
structure PlO (B H : Hp) (x dx o m : Addr) (ls : List Addr) (org : List (Key × U)) (mad : List (Key × List U)) : Prop where
  hx : H x = some (.ins (CTab.ct 0) dx (plF o m))
  hd : H dx = some (.own x)
  ho : ∃ eo, H o = some (.dK eo) ∧ Rpk B org eo
  hm : H m = some (.dK ((mad.map (·.1)).zip (ls.map V.ref)))
  len : ls.length = mad.length
  hl : ∀ (j : Nat) l k ns, ls[j]? = some l → mad[j]? = some (k, ns) → ∃ vs, H l = some (.lst vs) ∧ Rps B ns vs
  nd : (plA x dx o m ls).Nodup
  nb : ∀ a ∈ plA x dx o m ls, B a = none
open Classical in
/-- the part that stands for good, with the object laid into it -/
noncomputable def lay (L : List Addr) (H B : Hp) : Hp := fun a => if a ∈ L then H a else B a
theorem lay_in {L : List Addr} {H B : Hp} {a : Addr} (h : a ∈ L) : lay L H B a = H a := by simp [lay, h]
theorem lay_out {L : List Addr} {H B : Hp} {a : Addr} (h : a ∉ L) : lay L H B a = B a := by simp [lay, h]
theorem rpk_lists {B : Hp} : ∀ {mad : List (Key × List U)} {ls : List Addr}, ls.length = mad.length → (∀ (j : Nat) l k ns, ls[j]? = some l → mad[j]? = some (k, ns) → Rp B (.lst ns) (.ref l)) → Rpk B (mad.map fun km => (km.1, .lst km.2)) ((mad.map (·.1)).zip (ls.map V.ref))
  | [], [], _, _ => .nil
  | (k, ns) :: mad, l :: ls, h, f => .cons (f 0 l k ns rfl rfl) (rpk_lists (by simpa using h) fun j l' k' ns' h1 h2 => f (j + 1) l' k' ns' (by simpa using h1) (by simpa using h2))
  | [], _ :: _, h, _ => by simp at h
  | _ :: _, [], h, _ => by simp at h
section
variable {B H : Hp} {x dx o m : Addr} {ls : List Addr} {org : List (Key × U)} {mad : List (Key × List U)}
theorem PlO.ne (P : PlO B H x dx o m ls org mad) : x ≠ dx ∧ x ≠ o ∧ x ≠ m ∧ x ∉ ls ∧ dx ≠ o ∧ dx ≠ m ∧ dx ∉ ls ∧ o ≠ m ∧ o ∉ ls ∧ m ∉ ls := by
  have h := P.nd
  simp only [plA, List.nodup_cons, List.mem_cons, not_or] at h
  obtain ⟨⟨h1, h2, h3, h4⟩, ⟨h5, h6, h7⟩, ⟨h8, h9⟩, h10, _⟩ := h
  exact ⟨h1, h2, h3, h4, h5, h6, h7, h8, h9, h10⟩
theorem PlO.ndl (P : PlO B H x dx o m ls org mad) : ls.Nodup := by
  have h := P.nd
  simp only [plA, List.nodup_cons] at h
  exact h.2.2.2.2
theorem PlO.same (P : PlO B H x dx o m ls org mad) (H' : Hp) : Same B (lay (plA x dx o m ls) H' B) := fun a u e => by
  rw [lay_out (fun z => by rw [P.nb a z] at e; cases e)]; exact e
/-- locked, it is a value -/
theorem PlO.val (P : PlO B H x dx o m ls org mad) (s : Same B H) (ood mod' : Obj) {eo : List (Key × V)} (eho : H o = some (.dK eo)) :
    let H' := upd (upd H o (.frz ood (.dK eo))) m (.frz mod' (.dK ((mad.map (·.1)).zip (ls.map V.ref))))
    let B' := lay (plA x dx o m ls) H' B
    Same B' H' ∧ Rp B' (plU org mad) (.ref x) := by
  intro H' B'
  obtain ⟨n1, n2, n3, n4, n5, n6, n7, n8, n9, n10⟩ := P.ne
  have sB : Same B B' := P.same H'
  have hx' : H' x = some (.ins (CTab.ct 0) dx (plF o m)) := by show upd (upd H o _) m _ x = _; rw [upd_ne n3, upd_ne n2]; exact P.hx
  have hd' : H' dx = some (.own x) := by show upd (upd H o _) m _ dx = _; rw [upd_ne n6, upd_ne n5]; exact P.hd
  have ho' : H' o = some (.frz ood (.dK eo)) := by show upd (upd H o _) m _ o = _; rw [upd_ne n8, upd_same]
  have hm' : H' m = some (.frz mod' (.dK ((mad.map (·.1)).zip (ls.map V.ref)))) := by show upd (upd H o _) m _ m = _; rw [upd_same]
  refine ⟨fun a u e => ?_, ?_⟩
  · by_cases ha : a ∈ plA x dx o m ls
    · rw [show B' a = H' a from lay_in ha] at e; exact e
    · rw [show B' a = B a from lay_out ha] at e
      have h1 : a ≠ o := fun z => ha (by simp [z])
      have h2 : a ≠ m := fun z => ha (by simp [z])
      show upd (upd H o _) m _ a = _
      rw [upd_ne h2, upd_ne h1]; exact s a u e
  · obtain ⟨eo', e1, ro⟩ := P.ho
    rw [eho] at e1; cases e1
    refine .obj (a := x) (dx := dx) (es := plF o m) (by rw [show B' x = H' x from lay_in (by simp)]; exact hx') (by rw [show B' dx = H' dx from lay_in (by simp)]; exact hd') ?_
    refine .cons (.dic (by rw [show B' o = H' o from lay_in (by simp)]; exact ho') (ro.kp (Kp.of sB))) (.cons (.dic (by rw [show B' m = H' m from lay_in (by simp)]; exact hm') ?_) .nil)
    refine rpk_lists P.len fun j l k ns h1 h2 => ?_
    obtain ⟨vs, h3, h4⟩ := P.hl j l k ns h1 h2
    have hl : l ∈ ls := List.mem_of_getElem? h1
    have l1 : l ≠ o := fun z => n9 (z ▸ hl)
    have l2 : l ≠ m := fun z => n10 (z ▸ hl)
    refine .lst ?_ (h4.kp (Kp.of sB))
    rw [show B' l = H' l from lay_in (by simp [hl])]
    show upd (upd H o _) m _ l = _
    rw [upd_ne l2, upd_ne l1]; exact h3
/-- a step that leaves it as it is -/
theorem PlO.go {B2 H2 : Hp} (P : PlO B H x dx o m ls org mad) (g : Go B H B2 H2) : PlO B2 H2 x dx o m ls org mad := by
  obtain ⟨eo, e1, ro⟩ := P.ho
  have ex : ∀ a ∈ plA x dx o m ls, ∃ u, H a = some u := fun a ha => by
    simp only [plA, List.mem_cons] at ha
    rcases ha with rfl | rfl | rfl | rfl | ha
    · exact ⟨_, P.hx⟩
    · exact ⟨_, P.hd⟩
    · exact ⟨_, e1⟩
    · exact ⟨_, P.hm⟩
    · obtain ⟨j, hj, e⟩ := List.getElem_of_mem ha
      have hj2 : j < mad.length := by rw [← P.len]; exact hj
      obtain ⟨vs, h3, _⟩ := P.hl j a mad[j].1 mad[j].2 (by simp [hj, e]) (by simp [hj2])
      exact ⟨_, h3⟩
  refine ⟨g.h _ _ P.hx, g.h _ _ P.hd, ⟨eo, g.h _ _ e1, ro.kp (Kp.of g.b)⟩, g.h _ _ P.hm, P.len, fun j l k ns h1 h2 => ?_, P.nd, fun a ha => ?_⟩
  · obtain ⟨vs, h3, h4⟩ := P.hl j l k ns h1 h2
    exact ⟨vs, g.h _ _ h3, h4.up g⟩
  · obtain ⟨u, e⟩ := ex a ha
    exact g.noB (P.nb a ha) e
/-- a look at it -/
theorem PlO.peek {te : TE} {σ : L2.St} {ob : Option U} {z : U} (P : PlO B H x dx o m ls org mad) (s : Same B H) (h : ∀ B' H', Same B B' → Rp B' (plU org mad) (.ref x) → EvO te σ B' H' ob) (e : ob = some z) (hf : z.flat = true) {Q : VK}
    (q : ∀ v B2 H2, Go B H B2 H2 → Rp B2 z v → Q v H2) : tLockE (tLockE te) σ H Q := by
  obtain ⟨n1, n2, n3, n4, n5, n6, n7, n8, n9, n10⟩ := P.ne
  obtain ⟨eo, eho, ro⟩ := P.ho
  refine ⟨o, _, eho, trivial, fun ood => ⟨m, .dK ((mad.map (·.1)).zip (ls.map V.ref)), (by rw [upd_ne n8.symm]; exact P.hm), trivial, fun mod' => ?_⟩⟩
  obtain ⟨sB, rv⟩ := P.val s ood mod' eho
  refine h _ (upd (upd H o (.frz ood (.dK eo))) m (.frz mod' (.dK ((mad.map (·.1)).zip (ls.map V.ref))))) (P.same _) rv z e _ _ (At.refl sB) _ fun v B2 H2 g2 r2 => ?_
  have inl : ∀ a ∈ plA x dx o m ls, H2 a = upd (upd H o (.frz ood (.dK eo))) m (.frz mod' (.dK ((mad.map (·.1)).zip (ls.map V.ref)))) a := fun a ha => by
    have e1 : ∃ u, upd (upd H o (.frz ood (.dK eo))) m (.frz mod' (.dK ((mad.map (·.1)).zip (ls.map V.ref)))) a = some u := by
      by_cases h1 : a = m
      · subst h1; exact ⟨_, upd_same⟩
      · rw [upd_ne h1]
        by_cases h2 : a = o
        · subst h2; exact ⟨_, upd_same⟩
        · rw [upd_ne h2]
          simp only [plA, List.mem_cons] at ha
          rcases ha with rfl | rfl | rfl | rfl | ha
          · exact ⟨_, P.hx⟩
          · exact ⟨_, P.hd⟩
          · exact absurd rfl h2
          · exact absurd rfl h1
          · obtain ⟨j, hj, e⟩ := List.getElem_of_mem ha
            have hj2 : j < mad.length := by rw [← P.len]; exact hj
            obtain ⟨vs, h3, _⟩ := P.hl j a mad[j].1 mad[j].2 (by simp [hj, e]) (by simp [hj2])
            exact ⟨_, h3⟩
    obtain ⟨u, e1⟩ := e1
    rw [e1]; exact g2.h a u e1
  have em : H2 m = some (.frz mod' (.dK ((mad.map (·.1)).zip (ls.map V.ref)))) := by rw [inl m (by simp), upd_same]
  have eo2 : H2 o = some (.frz ood (.dK eo)) := by rw [inl o (by simp), upd_ne n8, upd_same]
  refine ⟨em, by rw [upd_ne n8]; exact eo2, ?_⟩
  refine q v (fun a => if a ∈ plA x dx o m ls then none else B2 a) _ ⟨fun a u ha => ?_, fun a u ha => ?_, fun a u ha => ?_, fun a u ha => ?_⟩ (r2.flat hf)
  · by_cases h1 : a = o
    · subst h1; rw [upd_same, ← eho]; exact ha
    · rw [upd_ne h1]
      by_cases h2 : a = m
      · subst h2; rw [upd_same, ← P.hm]; exact ha
      · rw [upd_ne h2]
        exact g2.h a u (by rw [upd_ne h2, upd_ne h1]; exact ha)
  · have hn : a ∉ plA x dx o m ls := fun z => by rw [P.nb a z] at ha; cases ha
    show (if a ∈ plA x dx o m ls then none else B2 a) = some u
    rw [if_neg hn]
    exact g2.b a u (by rw [lay_out hn]; exact ha)
  · have hn : a ∉ plA x dx o m ls := fun z => by
      have : (if a ∈ plA x dx o m ls then none else B2 a) = some u := ha
      rw [if_pos z] at this; cases this
    have ha : B2 a = some u := by
      have : (if a ∈ plA x dx o m ls then none else B2 a) = some u := ha
      rwa [if_neg hn] at this
    rw [upd_ne (fun z => hn (by simp [z])), upd_ne (fun z => hn (by simp [z]))]
    exact g2.bh a u ha
  · have hn : a ∉ plA x dx o m ls := fun z => by
      have : (if a ∈ plA x dx o m ls then none else B2 a) = some u := ha
      rw [if_pos z] at this; cases this
    have ha : B2 a = some u := by
      have : (if a ∈ plA x dx o m ls then none else B2 a) = some u := ha
      rwa [if_neg hn] at this
    rcases g2.fr a u ha with z | z
    · rw [lay_out hn] at z; exact .inl z
    · rw [upd_ne (fun z => hn (by simp [z])), upd_ne (fun z => hn (by simp [z]))] at z; exact .inr z
/-- a test that looks at it -/
theorem PlO.peekT {t : TT} {σ : L2.St} {ob : Option Bool} {z : Bool} (P : PlO B H x dx o m ls org mad) (s : Same B H) (h : ∀ B' H', Same B B' → Rp B' (plU org mad) (.ref x) → EvT t σ B' H' ob) (e : ob = some z) {Q : Bool → Hp → Prop}
    (q : ∀ B2 H2, Go B H B2 H2 → Q z H2) : tLockT (tLockT t) σ H Q := by
  obtain ⟨n1, n2, n3, n4, n5, n6, n7, n8, n9, n10⟩ := P.ne
  obtain ⟨eo, eho, ro⟩ := P.ho
  refine ⟨o, _, eho, trivial, fun ood => ⟨m, .dK ((mad.map (·.1)).zip (ls.map V.ref)), (by rw [upd_ne n8.symm]; exact P.hm), trivial, fun mod' => ?_⟩⟩
  obtain ⟨sB, rv⟩ := P.val s ood mod' eho
  refine h _ (upd (upd H o (.frz ood (.dK eo))) m (.frz mod' (.dK ((mad.map (·.1)).zip (ls.map V.ref))))) (P.same _) rv z e _ _ (At.refl sB) _ fun B2 H2 g2 => ?_
  have inl : ∀ a ∈ plA x dx o m ls, H2 a = upd (upd H o (.frz ood (.dK eo))) m (.frz mod' (.dK ((mad.map (·.1)).zip (ls.map V.ref)))) a := fun a ha => by
    have e1 : ∃ u, upd (upd H o (.frz ood (.dK eo))) m (.frz mod' (.dK ((mad.map (·.1)).zip (ls.map V.ref)))) a = some u := by
      by_cases h1 : a = m
      · subst h1; exact ⟨_, upd_same⟩
      · rw [upd_ne h1]
        by_cases h2 : a = o
        · subst h2; exact ⟨_, upd_same⟩
        · rw [upd_ne h2]
          simp only [plA, List.mem_cons] at ha
          rcases ha with rfl | rfl | rfl | rfl | ha
          · exact ⟨_, P.hx⟩
          · exact ⟨_, P.hd⟩
          · exact absurd rfl h2
          · exact absurd rfl h1
          · obtain ⟨j, hj, e⟩ := List.getElem_of_mem ha
            have hj2 : j < mad.length := by rw [← P.len]; exact hj
            obtain ⟨vs, h3, _⟩ := P.hl j a mad[j].1 mad[j].2 (by simp [hj, e]) (by simp [hj2])
            exact ⟨_, h3⟩
    obtain ⟨u, e1⟩ := e1
    rw [e1]; exact g2.h a u e1
  have em : H2 m = some (.frz mod' (.dK ((mad.map (·.1)).zip (ls.map V.ref)))) := by rw [inl m (by simp), upd_same]
  have eo2 : H2 o = some (.frz ood (.dK eo)) := by rw [inl o (by simp), upd_ne n8, upd_same]
  refine ⟨em, by rw [upd_ne n8]; exact eo2, ?_⟩
  refine q (fun a => if a ∈ plA x dx o m ls then none else B2 a) _ ⟨fun a u ha => ?_, fun a u ha => ?_, fun a u ha => ?_, fun a u ha => ?_⟩
  · by_cases h1 : a = o
    · subst h1; rw [upd_same, ← eho]; exact ha
    · rw [upd_ne h1]
      by_cases h2 : a = m
      · subst h2; rw [upd_same, ← P.hm]; exact ha
      · rw [upd_ne h2]
        exact g2.h a u (by rw [upd_ne h2, upd_ne h1]; exact ha)
  · have hn : a ∉ plA x dx o m ls := fun z => by rw [P.nb a z] at ha; cases ha
    show (if a ∈ plA x dx o m ls then none else B2 a) = some u
    rw [if_neg hn]
    exact g2.b a u (by rw [lay_out hn]; exact ha)
  · have hn : a ∉ plA x dx o m ls := fun z => by
      have : (if a ∈ plA x dx o m ls then none else B2 a) = some u := ha
      rw [if_pos z] at this; cases this
    have ha : B2 a = some u := by
      have : (if a ∈ plA x dx o m ls then none else B2 a) = some u := ha
      rwa [if_neg hn] at this
    rw [upd_ne (fun z => hn (by simp [z])), upd_ne (fun z => hn (by simp [z]))]
    exact g2.bh a u ha
  · have hn : a ∉ plA x dx o m ls := fun z => by
      have : (if a ∈ plA x dx o m ls then none else B2 a) = some u := ha
      rw [if_pos z] at this; cases this
    have ha : B2 a = some u := by
      have : (if a ∈ plA x dx o m ls then none else B2 a) = some u := ha
      rwa [if_neg hn] at this
    rcases g2.fr a u ha with z | z
    · rw [lay_out hn] at z; exact .inl z
    · rw [upd_ne (fun z => hn (by simp [z])), upd_ne (fun z => hn (by simp [z]))] at z; exact .inr z
end
end Dn
set_option Elab.async false
set_option linter.all false
set_option maxRecDepth 100000
set_option maxHeartbeats 2000000
namespace Dn
open PySem L2
variable [CTab]
/-! ### tests that look at it -/
def EvTG (tt : TT) (σ : L2.St) (B H : Hp) (o : Option Bool) : Prop :=
  ∀ z, o = some z → ∀ B1 H1, Go B H B1 H1 → ∀ Q : Bool → Hp → Prop, (∀ B2 H2, Go B1 H1 B2 H2 → Q z H2) → tt σ H1 Q
section
variable {σ : L2.St} {B H : Hp} {x dx o m : Addr} {ls : List Addr} {org : List (Key × U)} {mad : List (Key × List U)} {te : TE} {t u : TT} {K : PySem.W.Frag}
theorem etg_peek {ob : Option U} (P : PlO B H x dx o m ls org mad) (h : ∀ B' H', Same B B' → Rp B' (plU org mad) (.ref x) → EvO te σ B' H' ob) : EvTG (tB (tLockE (tLockE te))) σ B H (testO ob) := fun z e B1 H1 g Q q => by
  obtain ⟨y, ey, e⟩ := bind_some e
  cases y <;> cases e
  exact (P.go g).peek g.bh (fun B' H' s r => h B' H' (g.b.trans s) r) ey rfl fun v B2 H2 g2 r2 => by cases r2; exact ⟨_, rfl, q B2 H2 g2⟩
theorem etg_peekT {ob : Option Bool} (P : PlO B H x dx o m ls org mad) (h : ∀ B' H', Same B B' → Rp B' (plU org mad) (.ref x) → EvT t σ B' H' ob) : EvTG (tLockT (tLockT t)) σ B H ob := fun z e B1 H1 g Q q =>
  (P.go g).peekT g.bh (fun B' H' s r => h B' H' (g.b.trans s) r) e fun B2 H2 g2 => q B2 H2 g2
theorem etg_or {a b : Option Bool} (h1 : EvTG t σ B H a) (h2 : EvTG u σ B H b) : EvTG (tOr t u) σ B H (orO a b) := fun z e B1 H1 g Q q => by
  obtain ⟨x, ex, e⟩ := bind_some e
  refine h1 x ex B1 H1 g _ fun B2 H2 g2 => ?_
  cases x with
  | false => exact h2 z e B2 H2 (g.trans g2) Q fun B3 H3 g3 => q B3 H3 (g2.trans g3)
  | true => cases e; exact q B2 H2 g2
theorem etg_not {a : Option Bool} (h1 : EvTG t σ B H a) : EvTG (tNot t) σ B H (notO a) := fun z e B1 H1 g _ q => by
  obtain ⟨x, ex, e⟩ := map_some e
  subst e
  exact h1 x ex B1 H1 g _ fun B2 H2 g2 => q B2 H2 g2
theorem q_ifG {α : Type} {c : Option Bool} {m1 m2 : Option α} {r : α} {tu tw tz : TS} {D : Ends} (s : Same B H) (h : EvTG t σ B H c) (e : ifO c m1 m2 = some r) (h1 : m1 = some r → ∀ B1 H1, Go B H B1 H1 → tu { D with nx := tz D } σ H1) (h2 : m2 = some r → ∀ B1 H1, Go B H B1 H1 → tw { D with nx := tz D } σ H1) :
    tSeq (tIfS t tu tw) tz D σ H := by
  obtain ⟨x, ex, e⟩ := bind_some e
  refine h x ex B H (Go.refl s) _ fun B2 H2 g2 => ?_
  cases x with
  | true => exact h1 e B2 H2 g2
  | false => exact h2 e B2 H2 g2
/-! ### changes -/
theorem PlO.mem (P : PlO B H x dx o m ls org mad) {a : Addr} (ha : a ∈ plA x dx o m ls) : ∃ u, H a = some u := by
  obtain ⟨eo, e1, ro⟩ := P.ho
  simp only [plA, List.mem_cons] at ha
  rcases ha with rfl | rfl | rfl | rfl | ha
  · exact ⟨_, P.hx⟩
  · exact ⟨_, P.hd⟩
  · exact ⟨_, e1⟩
  · exact ⟨_, P.hm⟩
  · obtain ⟨j, hj, e⟩ := List.getElem_of_mem ha
    have hj2 : j < mad.length := by rw [← P.len]; exact hj
    obtain ⟨vs, h3, _⟩ := P.hl j a mad[j].1 mad[j].2 (by simp [hj, e]) (by simp [hj2])
    exact ⟨_, h3⟩
/-- what may change: the object's parts -/
abbrev plM (x dx o m : Addr) (ls : List Addr) : Addr → Prop := fun a => a ∈ plA x dx o m ls
theorem gs_one {M : Addr → Prop} {p : Addr} {u : HO} (s : Same B H) (hb : B p = none) (hM : M p) : Gs M B H B (upd H p u) :=
  ⟨fun a v e hm => by rw [upd_ne (fun z => hm (by rw [z]; exact hM))]; exact e, fun a e => by
      by_cases ha : a = p
      · subst ha; rw [upd_same] at e; cases e
      · rw [upd_ne ha] at e; exact e, Same.refl _, same_upd s hb, fun a v e => .inl e⟩
theorem PlO.setO {k : Key} {t : U} {v : V} {eo : List (Key × V)} (P : PlO B H x dx o m ls org mad) (e : H o = some (.dK eo)) (r : Rp B t v) : PlO B (upd H o (.dK (putK eo k v))) x dx o m ls (putU org k t) mad := by
  obtain ⟨n1, n2, n3, n4, n5, n6, n7, n8, n9, n10⟩ := P.ne
  obtain ⟨eo', e1, ro⟩ := P.ho
  rw [e] at e1; cases e1
  refine ⟨by rw [upd_ne n2]; exact P.hx, by rw [upd_ne n5]; exact P.hd, ⟨_, upd_same, ro.put r k⟩, by rw [upd_ne n8.symm]; exact P.hm, P.len, fun j l k' ns h1 h2 => ?_, P.nd, P.nb⟩
  obtain ⟨vs, h3, h4⟩ := P.hl j l k' ns h1 h2
  exact ⟨vs, by rw [upd_ne (mem_ne (List.mem_of_getElem? h1) n9)]; exact h3, h4⟩
theorem zip_map_append {α β : Type} : ∀ (ks : List α) (ls : List β), ks.length = ls.length → ∀ k l, (ks ++ [k]).zip (ls ++ [l]) = ks.zip ls ++ [(k, l)]
  | [], [], _, _, _ => rfl
  | a :: ks, b :: ls, h, k, l => by
    have := zip_map_append ks ls (by simpa using h) k l
    simp [this]
  | [], _ :: _, h, _, _ => by simp at h
  | _ :: _, [], h, _, _ => by simp at h
theorem any_zip {ks : List Key} {vs : List V} (h : ks.length = vs.length) (k : Key) : ((ks.zip vs).any fun kv => decide (kv.1 = k)) = ks.any fun x => decide (x = k) := by
  induction ks generalizing vs with
  | nil => simp
  | cons a ks ih =>
    cases vs with
    | nil => simp at h
    | cons b vs => simp only [List.zip_cons_cons, List.any_cons]; rw [ih (by simpa using h)]
theorem PlO.setM {k : Key} {p : Addr} (P : PlO B H x dx o m ls org mad) (s : Same B H) (hp : H p = none) (hk : (mad.any fun km => decide (km.1 = k)) = false) :
    PlO B (upd (upd H p (.lst [])) m (.dK (putK ((mad.map (·.1)).zip (ls.map V.ref)) k (.ref p)))) x dx o m (ls ++ [p]) org (mad ++ [(k, [])]) := by
  obtain ⟨n1, n2, n3, n4, n5, n6, n7, n8, n9, n10⟩ := P.ne
  obtain ⟨eo, e1, ro⟩ := P.ho
  have np : ∀ a ∈ plA x dx o m ls, a ≠ p := fun a ha z => by
    obtain ⟨u, e⟩ := P.mem ha
    rw [z, hp] at e; cases e
  have hput : putK ((mad.map (·.1)).zip (ls.map V.ref)) k (V.ref p) = ((mad ++ [(k, ([] : List U))]).map (·.1)).zip ((ls ++ [p]).map V.ref) := by
    unfold putK
    rw [any_zip (by simp [P.len]), List.any_map]
    have : (mad.any ((fun x => decide (x = k)) ∘ fun x => x.1)) = false := hk
    rw [this, if_neg (by decide), List.map_append, List.map_append]
    exact (zip_map_append _ _ (by simp [P.len]) _ _).symm
  rw [hput]
  refine ⟨by rw [upd_ne n3, upd_ne (np x (by simp))]; exact P.hx, by rw [upd_ne n6, upd_ne (np dx (by simp))]; exact P.hd, ⟨eo, by rw [upd_ne n8, upd_ne (np o (by simp))]; exact e1, ro⟩, upd_same, by simp [P.len], fun j l k' ns h1 h2 => ?_, ?_, fun a ha => ?_⟩
  · by_cases hj : j < ls.length
    · rw [List.getElem?_append_left hj] at h1
      rw [List.getElem?_append_left (by rw [← P.len]; exact hj)] at h2
      obtain ⟨vs, h3, h4⟩ := P.hl j l k' ns h1 h2
      have hl : l ∈ ls := List.mem_of_getElem? h1
      exact ⟨vs, by rw [upd_ne (mem_ne hl n10), upd_ne (np l (by simp [hl]))]; exact h3, h4⟩
    · rw [List.getElem?_append_right (by omega)] at h1
      rw [List.getElem?_append_right (by rw [← P.len]; omega)] at h2
      have e : j - ls.length = 0 := by
        have := (List.getElem?_eq_some_iff.mp h1).1
        simp at this; omega
      rw [e] at h1
      rw [← P.len, e] at h2
      cases h1; cases h2
      exact ⟨[], by rw [upd_ne (Ne.symm (np m (by simp))), upd_same], .nil⟩
  · have : plA x dx o m (ls ++ [p]) = plA x dx o m ls ++ [p] := rfl
    rw [this, List.nodup_append]
    exact ⟨P.nd, by simp, fun a ha b hb => by simp at hb; subst hb; exact np a ha⟩
  · have : a ∈ plA x dx o m ls ++ [p] := ha
    rcases List.mem_append.mp this with h | h
    · exact P.nb a h
    · simp at h; subst h; exact s.free hp
/-- the list under a key -/
def appM (mad : List (Key × List U)) (k : Key) (y : U) : List (Key × List U) := match mad with
  | [] => []
  | km :: r => if km.1 = k then (km.1, km.2 ++ [y]) :: r else km :: appM r k y
def getM (mad : List (Key × List U)) (k : Key) : Option (List U) := match mad with
  | [] => none
  | km :: r => if km.1 = k then some km.2 else getM r k
theorem getM_at {k : Key} : ∀ {mad : List (Key × List U)} {ns : List U} {ls : List Addr}, getM mad k = some ns → ls.length = mad.length → ∃ (j : Nat) (l : Addr), ls[j]? = some l ∧ mad[j]? = some (k, ns) ∧ valV ((mad.map (·.1)).zip (ls.map V.ref)) k = some (.ref l) ∧ ∀ y, appM mad k y = mad.set j (k, ns ++ [y])
  | [], ns, ls, h, _ => by cases h
  | (k', ms) :: mad, ns, [], h, hl => by simp at hl
  | (k', ms) :: mad, ns, l :: ls, h, hl => by
    unfold getM at h
    split at h
    · rename_i e
      cases h
      have e : k' = k := e
      subst e
      exact ⟨0, l, rfl, rfl, by simp [valV], fun y => by simp [appM]⟩
    · rename_i e
      have e : ¬ k' = k := e
      obtain ⟨j, l', h1, h2, h3, h4⟩ := getM_at (ls := ls) h (by simpa using hl)
      refine ⟨j + 1, l', by simpa using h1, by simpa using h2, ?_, fun y => by simp [appM, e, h4 y]⟩
      have : valV (((k', ms) :: mad).map (·.1) |>.zip ((l :: ls).map V.ref)) k = valV ((mad.map (·.1)).zip (ls.map V.ref)) k := by simp [valV, e]
      rw [this]; exact h3
theorem PlO.app {j : Nat} {l : Addr} {k : Key} {ns : List U} {y : U} {v : V} {vs : List V} (P : PlO B H x dx o m ls org mad) (h1 : ls[j]? = some l) (h2 : mad[j]? = some (k, ns)) (e : H l = some (.lst vs)) (rv : Rps B ns vs) (r : Rp B y v) :
    PlO B (upd H l (.lst (vs ++ [v]))) x dx o m ls org (mad.set j (k, ns ++ [y])) := by
  obtain ⟨n1, n2, n3, n4, n5, n6, n7, n8, n9, n10⟩ := P.ne
  obtain ⟨eo, e1, ro⟩ := P.ho
  have hl : l ∈ ls := List.mem_of_getElem? h1
  have hj : j < mad.length := (List.getElem?_eq_some_iff.mp h2).1
  have hk : (mad.set j (k, ns ++ [y])).map (·.1) = mad.map (·.1) := by
    rw [List.map_set]
    have : (mad.map (·.1))[j]? = some k := by rw [List.getElem?_map, h2]; rfl
    obtain ⟨hj', ej⟩ := List.getElem?_eq_some_iff.mp this
    show (mad.map (·.1)).set j k = mad.map (·.1)
    rw [← ej, List.set_getElem_self]
  refine ⟨by rw [upd_ne (mem_ne hl n4).symm]; exact P.hx, by rw [upd_ne (mem_ne hl n7).symm]; exact P.hd, ⟨eo, by rw [upd_ne (mem_ne hl n9).symm]; exact e1, ro⟩, by rw [hk, upd_ne (mem_ne hl n10).symm]; exact P.hm, by rw [List.length_set]; exact P.len, fun j' l' k' ns' a1 a2 => ?_, P.nd, P.nb⟩
  by_cases hjj : j' = j
  · subst hjj
    rw [h1] at a1; cases a1
    rw [List.getElem?_set_self hj] at a2; cases a2
    exact ⟨_, upd_same, rv.append (.one r)⟩
  · rw [List.getElem?_set_ne (Ne.symm hjj)] at a2
    obtain ⟨vs', h3, h4⟩ := P.hl j' l' k' ns' a1 a2
    have hne : l' ≠ l := fun z => by
      subst z
      obtain ⟨b1, c1⟩ := List.getElem?_eq_some_iff.mp a1
      obtain ⟨b2, c2⟩ := List.getElem?_eq_some_iff.mp h1
      exact hjj ((List.getElem_inj P.ndl).mp (c1.trans c2.symm))
    exact ⟨vs', by rw [upd_ne hne]; exact h3, h4⟩
/-! ### the statements of put -/
theorem q_putO {tv ty : TE} {tz : TS} {D : Ends} {t : U} {k : Key} (P : PlO B H x dx o m ls org mad) (s : Same B H) (c : Cls K (CTab.ct 0)) (na : NoAttr K (CTab.ct 0) "origins") (hv : σ[0]? = some (some (.ref x))) (h1 : EvO tv σ B H (some t)) (h2 : EvO ty σ B H (some (kU k))) (hl : org.length < lim)
    (kk : ∀ B1 H1, Gs (plM x dx o m ls) B H B1 H1 → PlO B1 H1 x dx o m ls (putU org k t) mad → tz D σ H1) : tSeq (sDPut (tFld K (tVar 0) "origins") ty tv) tz D σ H := by
  refine h1 t rfl B H (At.refl s) _ fun v B1 H1 g1 r1 => ⟨_, hv, x, _, dx, _, .ref o, rfl, (P.go g1).hx, c, na, rfl, h2 _ rfl B1 H1 g1 _ fun kv B2 H2 g2 r2 => ?_⟩
  have P2 := (P.go g1).go g2
  obtain ⟨eo, e1, ro⟩ := P2.ho
  have ek : kv = kV k := r2.key (by cases k <;> rfl)
  refine ⟨o, _, rfl, .inl ⟨eo, k, e1, ek, lim_lt (by rw [ro.length]; exact Nat.le_of_lt hl), rfl⟩, kk B2 _ ?_ (P2.setO e1 (r1.up g2))⟩
  exact (Gs.of (g1.trans g2)).trans (gs_one g2.bh (P2.nb o (by simp)) (by simp [plM]))
theorem q_putM {ty : TE} {tz : TS} {D : Ends} {k : Key} (P : PlO B H x dx o m ls org mad) (s : Same B H) (c : Cls K (CTab.ct 0)) (na : NoAttr K (CTab.ct 0) "made") (hv : σ[0]? = some (some (.ref x))) (h2 : EvO ty σ B H (some (kU k))) (hl : mad.length < lim) (hk : (mad.any fun km => decide (km.1 = k)) = false)
    (kk : ∀ p B1 H1, H p = none → Gs (plM x dx o m ls) B H B1 H1 → PlO B1 H1 x dx o m (ls ++ [p]) org (mad ++ [(k, [])]) → tz D σ H1) : tSeq (sDPut (tFld K (tVar 0) "made") ty (tLst tNil)) tz D σ H := by
  refine ⟨by show (0 : Nat) ≤ sizeLine; decide, fun p hp => ?_⟩
  have g0 : Go B H B (upd H p (.lst [])) := Go.own s hp
  have P0 := P.go g0
  refine ⟨_, hv, x, _, dx, _, .ref m, rfl, P0.hx, c, na, rfl, h2 _ rfl B _ g0 _ fun kv B2 H2 g2 r2 => ?_⟩
  have ek : kv = kV k := r2.key (by cases k <;> rfl)
  have hpm : ∀ a ∈ plA x dx o m ls, a ≠ p := fun a ha z => by
    obtain ⟨u, e⟩ := P.mem ha
    rw [z, hp] at e; cases e
  have P2 := P0.go g2
  have hB2p : B2 p = none := g2.noB (s.free hp) upd_same
  have hH2p : H2 p = some (.lst []) := g2.h _ _ upd_same
  obtain ⟨n1, n2, n3, n4, n5, n6, n7, n8, n9, n10⟩ := P.ne
  refine ⟨m, _, rfl, .inl ⟨_, k, P2.hm, ek, lim_lt ?_, rfl⟩, kk p B2 _ hp ?_ ?_⟩
  · simp only [List.length_zip, List.length_map]
    have := P.len
    omega
  · exact (Gs.of (g0.trans g2)).trans (gs_one g2.bh (P2.nb m (by simp)) (by simp [plM]))
  · -- the heap H2 has p already: lay it as setM does
    have e0 : H2 = upd (fun a => if a = p then none else H2 a) p (.lst []) := by
      funext a
      by_cases ha : a = p
      · subst ha; rw [upd_same, hH2p]
      · rw [upd_ne ha]; simp [ha]
    have P3 : PlO B2 (fun a => if a = p then none else H2 a) x dx o m ls org mad := by
      obtain ⟨eo, e1, ro⟩ := P2.ho
      have f : ∀ a ∈ plA x dx o m ls, (if a = p then none else H2 a) = H2 a := fun a ha => if_neg (hpm a ha)
      refine ⟨by rw [f x (by simp)]; exact P2.hx, by rw [f dx (by simp)]; exact P2.hd, ⟨eo, by rw [f o (by simp)]; exact e1, ro⟩, by rw [f m (by simp)]; exact P2.hm, P2.len, fun j l k' ns a1 a2 => ?_, P2.nd, P2.nb⟩
      obtain ⟨vs, a3, a4⟩ := P2.hl j l k' ns a1 a2
      exact ⟨vs, by rw [f l (by simp [List.mem_of_getElem? a1])]; exact a3, a4⟩
    have s3 : Same B2 (fun a => if a = p then none else H2 a) := fun a u e => by
      show (if a = p then none else H2 a) = some u
      rw [if_neg (fun z => by rw [z, hB2p] at e; cases e)]; exact g2.bh a u e
    have := P3.setM (k := k) s3 (p := p) (by simp) hk
    rw [← e0] at this
    exact this
theorem q_appM {tw te : TE} {tz : TS} {D : Ends} {k : Key} {y : U} {ns : List U} (P : PlO B H x dx o m ls org mad) (s : Same B H) (c : Cls K (CTab.ct 0)) (na : NoAttr K (CTab.ct 0) "made") (hv : σ[0]? = some (some (.ref x))) (h1 : EvO tw σ B H (some (kU k))) (h2 : EvO te σ B H (some y)) (hg : getM mad k = some ns) (hl : ns.length < lim)
    (kk : ∀ B1 H1, Gs (plM x dx o m ls) B H B1 H1 → PlO B1 H1 x dx o m ls org (appM mad k y) → tz D σ H1) : tSeq (tDrop (tBM K "list" rAppend (tOp (rIxA K) (tFld K (tVar 0) "made") tw) (tCons te tNil))) tz D σ H := by
  refine ⟨_, hv, x, _, dx, _, .ref m, rfl, P.hx, c, na, rfl, h1 _ rfl B H (At.refl s) _ fun kv B1 H1 g1 r1 => ?_⟩
  have ek : kv = kV k := r1.key (by cases k <;> rfl)
  subst ek
  obtain ⟨j, l, a1, a2, a3, a4⟩ := getM_at hg P.len
  have P1 := P.go g1
  obtain ⟨vs, a5, a6⟩ := P1.hl j l k ns a1 a2
  refine .inr ⟨m, .ref l, rfl, .inl ⟨_, k, .inl P1.hm, rfl, a3.symm⟩, .inl ⟨rfl, vs, SqL.of a5⟩, h2 y rfl B1 H1 g1 _ fun v B2 H2 g2 r2 => ?_⟩
  have P2 := P1.go g2
  obtain ⟨vs2, b5, b6⟩ := P2.hl j l k ns a1 a2
  refine ⟨l, vs2, v, rfl, rfl, b5, lim_lt (by rw [b6.length]; exact Nat.le_of_lt hl), ?_⟩
  have hm : l ∈ plA x dx o m ls := by simp [List.mem_of_getElem? a1]
  have P3 := P2.app a1 a2 b5 b6 r2
  rw [← a4 y] at P3
  exact kk B2 _ ((Gs.of (g1.trans g2)).trans (gs_one g2.bh (P2.nb l hm) hm)) P3
end
end Dn
set_option Elab.async false
set_option linter.all false
set_option maxRecDepth 100000
set_option maxHeartbeats 2000000
namespace Dn
open PySem L2
variable [CTab]
def addsM (w0 : U) : List (Key × List U) → List U → Option (List (Key × List U))
  | mad, [] => some mad
  | mad, w :: r => w.key.bind fun k => (getM mad k).bind fun ns => if ns.length < lim then addsM w0 (appM mad k w0) r else none
def putP (t1 t2 : Option Bool) (org : List (Key × U)) (mad : List (Key × List U)) (w0 : U) (rest : List U) : Option (Bool × List (Key × U) × List (Key × List U)) :=
  ifO t1 (some (false, org, mad)) (ifO t2 (some (false, org, mad)) (w0.key.bind fun k => if (org.length < lim ∧ mad.length < lim) ∧ (mad.any fun km => decide (km.1 = k)) = false then
    (addsM w0 (mad ++ [(k, [])]) rest).map fun mad' => (true, putU org k (.tup rest), mad') else none))
theorem key_kU {u : U} {k : Key} (h : u.key = some k) : u = kU k := by
  cases u <;> cases h <;> rfl
section
variable {B H : Hp} {x dx o m : Addr} {ls : List Addr} {org org' : List (Key × U)} {mad mad' : List (Key × List U)} {K : PySem.W.Frag} {t1 t2 : Option Bool} {c1 c2 : TT} {tk tt : TE} {wi : TI} {w0 : U} {rest : List U} {b : Bool} {wv : V} {Q : VK} {nx : L2.St → Hp → Prop}
theorem put_reads (c : Cls K (CTab.ct 0)) (no : NoAttr K (CTab.ct 0) "origins") (nm : NoAttr K (CTab.ct 0) "made") (P : PlO B H x dx o m ls org mad) (s : Same B H)
    (h1 : EvTG c1 [some (.ref x), some wv, none] B H t1) (h2 : ∀ B1 H1, Go B H B1 H1 → EvTG c2 [some (.ref x), some wv, none] B1 H1 t2)
    (hk : ∀ ow B' H', Same B B' → EvO tk [some (.ref x), some wv, ow] B' H' (some w0)) (ht : ∀ B' H', Same B B' → EvO tt [some (.ref x), some wv, none] B' H' (some (.tup rest)))
    (hi : ∀ B' H', Same B B' → EvI wi [some (.ref x), some wv, none] B' H' (some rest)) (hm : putP t1 t2 org mad w0 rest = some (b, org', mad'))
    (kQ : ∀ B2 H2 ls2, Gs (plM x dx o m ls) B H B2 H2 → (∀ l ∈ ls2, l ∈ ls ∨ H l = none) → PlO B2 H2 x dx o m ls2 org' mad' → Q (.bl b) H2) :
    tSeq (tIfS c1 (tSeq (tRet (tC (.bl false))) tNext) tNext) (tSeq (tIfS c2 (tSeq (tRet (tC (.bl false))) tNext) tNext) (tSeq (sDPut (tFld K (tVar 0) "origins") tk tt) (tSeq (sDPut (tFld K (tVar 0) "made") tk (tLst tNil))
      (tSeq (tFor wi (gName 2) (tSeq (tDrop (tBM K "list" rAppend (tOp (rIxA K) (tFld K (tVar 0) "made") (tVar 2)) (tCons tk tNil))) tNext)) (tSeq (tRet (tC (.bl true))) tNext))))) { nx := nx, rt := Q } [some (.ref x), some wv, none] H := by
  refine q_ifG s h1 hm (fun e B1 H1 g1 => ?_) fun e B1 H1 g1 => ?_
  · cases e
    exact kQ B1 H1 ls (.of g1) (fun l hl => .inl hl) (P.go g1)
  · refine q_ifG g1.bh (h2 B1 H1 g1) e (fun e B2 H2 g2 => ?_) fun e B2 H2 g2 => ?_
    · cases e
      exact kQ B2 H2 ls (.of (g1.trans g2)) (fun l hl => .inl hl) ((P.go g1).go g2)
    · obtain ⟨k, ek, e⟩ := bind_some e
      split at e
      · rename_i hl
        obtain ⟨⟨l1, l2⟩, l3⟩ := hl
        obtain ⟨madF, em, e⟩ := map_some e
        cases e
        have e0 := key_kU ek
        subst e0
        have g12 := g1.trans g2
        have P2 := P.go g12
        refine q_putO P2 g2.bh c no rfl (ht B2 H2 g12.b) (hk none B2 H2 g12.b) l1 fun B3 H3 g3 P3 => ?_
        refine q_putM P3 g3.bh c nm rfl (hk none B3 H3 (g12.b.trans g3.b)) l2 l3 fun p B4 H4 hp g4 P4 => ?_
        have sB4 : Same B B4 := (g12.b.trans g3.b).trans g4.b
        have g04 : Gs (plM x dx o m ls) B H B4 H4 := ((Gs.of g12).trans g3).trans g4
        have hp0 : H p = none := (Gs.n (M := plM x dx o m ls) ((Gs.of g12).trans g3) p hp)
        have hls : ∀ l ∈ ls ++ [p], l ∈ ls ∨ H l = none := fun l hl => by
          rcases List.mem_append.mp hl with h | h
          · exact .inl h
          · simp at h; subst h; exact .inr hp0
        refine q_for g4.bh (hi B4 H4 sB4) rfl fun B5 H5 g5 => ?_
        refine ⟨fun l σ' B' H' => ∃ (ow : Option V) (md : List (Key × List U)), σ' = [some (.ref x), some wv, ow] ∧ Gs (plM x dx o m ls) B H B' H' ∧ Same B5 B' ∧ PlO B' H' x dx o m (ls ++ [p]) (putU org k (.tup rest)) md ∧ addsM (kU k) md l = some mad', ?_, ?_, ?_, ?_⟩
        · exact ⟨none, _, rfl, g04.trans (.of g5), Same.refl _, P4.go g5, em⟩
        · rintro l σ' B' H' ⟨ow, md, _, g', sb, _⟩
          exact ⟨sb, g'.bh⟩
        · rintro u l v σ' B' H' B'' H'' ⟨ow, md, rfl, g', sb, P', ha⟩ gq rq
          obtain ⟨ku, eku, ha2⟩ := bind_some ha
          obtain ⟨ns, ens, ha3⟩ := bind_some ha2
          clear ha ha2
          split at ha3
          · rename_i hns
            have eu := key_kU eku
            subst eu
            have sB'' : Same B B'' := ((g5.b.trans sb).trans gq.b) |> (sB4.trans ·)
            show tSeq _ tNext _ ([some (V.ref x), some wv, ow].set 2 (some v)) H''
            refine q_appM (P'.go gq) gq.bh c nm rfl (eo_var rfl rq) (hk (some v) B'' H'' sB'') ens hns fun B6 H6 g6 P6 => ?_
            refine ⟨B6, some v, _, rfl, ?_, (sb.trans gq.b).trans g6.b, P6, ha3⟩
            refine (g'.trans (.of gq)).base g6 fun a hA => ?_
            have hA : a ∈ plA x dx o m ls ++ [p] := hA
            rcases List.mem_append.mp hA with h | h
            · exact .inl h
            · simp at h; subst h; exact .inr hp0
          · cases ha3
        · rintro σ' B' H' ⟨ow, md, rfl, g', sb, P', ha⟩
          cases ha
          exact kQ B' H' _ g' hls P'
      · cases e
end
/-- the promise of put -/
def spPut (mp : List (Key × U) → List (Key × List U) → U → Option (Bool × List (Key × U) × List (Key × List U))) : Sp := fun vs H Q _ => ∃ B x dx o m ls org mad wv words b org' mad', Same B H ∧ vs = [.ref x, wv] ∧ PlO B H x dx o m ls org mad ∧ Rp B words wv ∧
  mp org mad words = some (b, org', mad') ∧ ∀ B2 H2 ls2, Gs (plM x dx o m ls) B H B2 H2 → (∀ l ∈ ls2, l ∈ ls ∨ H l = none) → PlO B2 H2 x dx o m ls2 org' mad' → Q (.bl b) H2
/-- .. of __init__ -/
def spInit : Sp := fun vs H Q _ => ∃ B x dx, Same B H ∧ vs = [.ref x] ∧ H x = some (.ins (CTab.ct 0) dx []) ∧ H dx = some (.own x) ∧ x ≠ dx ∧ B x = none ∧ B dx = none ∧
  ∀ B2 H2 o m, Gs (fun a => a = x) B H B2 H2 → H o = none → H m = none → PlO B2 H2 x dx o m [] [] [] → Q .non H2
theorem init_reads {B H : Hp} {x dx : Addr} {K : PySem.W.Frag} {Q : VK} (c : Cls K (CTab.ct 0)) (no : NoAttr K (CTab.ct 0) "origins") (nm : NoAttr K (CTab.ct 0) "made") (s : Same B H) (hx : H x = some (.ins (CTab.ct 0) dx [])) (hd : H dx = some (.own x)) (hne : x ≠ dx) (bx : B x = none) (bd : B dx = none)
    (k : ∀ B2 H2 o m, Gs (fun a => a = x) B H B2 H2 → H o = none → H m = none → PlO B2 H2 x dx o m [] [] [] → Q .non H2) :
    tSeq (sFld K (tVar 0) tDNewK "origins") (tSeq (sFld K (tVar 0) tDNewK "made") tNext) { nx := fun _ H' => Q .non H', rt := Q } [some (.ref x)] H := by
  intro o ho
  have nxo : x ≠ o := ne_of_none hx ho
  have ndo : dx ≠ o := ne_of_none hd ho
  refine ⟨_, rfl, x, _, dx, [], rfl, by rw [upd_ne nxo]; exact hx, c, no, by decide, ?_⟩
  intro m hm
  have nmo : m ≠ o := fun z => by
    rw [z, upd_ne nxo.symm, upd_same] at hm; cases hm
  have nxm : x ≠ m := fun z => by
    rw [← z, upd_same] at hm; cases hm
  have hm0 : H m = none := by
    rwa [upd_ne nxm.symm, upd_ne nmo] at hm
  have ndm : dx ≠ m := ne_of_none hd hm0
  refine ⟨_, rfl, x, _, dx, putF "origins" (.ref o) [], rfl, by rw [upd_ne nxm, upd_same], c, nm, (by show 1 < 1000; decide), ?_⟩
  have ef : putF "made" (.ref m) (putF "origins" (.ref o) []) = plF o m := by
    have hs : ¬ (("origins" : Str) = "made") := by decide +kernel
    show (if ("origins" : Str) = "made" then _ else _) = _
    rw [if_neg hs]
    rfl
  rw [ef]
  refine k B _ o m ⟨fun a u e hn => ?_, fun a e => ?_, Same.refl _, fun a u e => ?_, fun a u e => .inl e⟩ ho hm0 ⟨upd_same, ?_, ⟨[], ?_, .nil⟩, ?_, rfl, fun j l k ns h1 => by simp at h1, ?_, fun a ha => ?_⟩
  · have hn : a ≠ x := hn
    rw [upd_ne hn, upd_ne (ne_of_none e hm0), upd_ne hn, upd_ne (ne_of_none e ho)]; exact e
  · by_cases h1 : a = x
    · subst h1; rw [upd_same] at e; cases e
    · rw [upd_ne h1] at e
      by_cases h2 : a = m
      · subst h2; rw [upd_same] at e; cases e
      · rw [upd_ne h2, upd_ne h1] at e
        by_cases h3 : a = o
        · subst h3; rw [upd_same] at e; cases e
        · rw [upd_ne h3] at e; exact e
  · have h1 : a ≠ x := ne_of_none e bx
    rw [upd_ne h1, upd_ne (ne_of_none (s a u e) hm0), upd_ne h1, upd_ne (ne_of_none (s a u e) ho)]; exact s a u e
  · rw [upd_ne hne.symm, upd_ne ndm, upd_ne hne.symm, upd_ne ndo]; exact hd
  · rw [upd_ne nxo.symm, upd_ne nmo.symm, upd_ne nxo.symm, upd_same]
  · rw [upd_ne nxm.symm, upd_same]; rfl
  · simp [plA, hne, nxo, nxm, ndo, ndm, nmo.symm]
  · simp only [plA, List.mem_cons, List.not_mem_nil, or_false] at ha
    rcases ha with rfl | rfl | rfl | rfl
    · exact bx
    · exact bd
    · exact s.free ho
    · exact s.free hm0
/-! slices of what is there -/
theorem get0 {w0 : U} {rest : List U} : getV (.lst (w0 :: rest)) (.int 0) = some w0 := by
  show atI (w0 :: rest) 0 = some w0
  unfold atI ixN
  rw [if_pos (by decide), if_pos (by simp)]
  rfl
theorem cut1 {w0 : U} {rest : List U} : sliceV (.lst (w0 :: rest)) (some 1) none = some (.lst rest) := by
  show some (U.lst (cutU (w0 :: rest) (some 1) none)) = _
  have e1 : HT.sIx (w0 :: rest).length 0 (some 1) = 1 := by
    unfold HT.sIx
    simp
  have e2 : HT.sIx (w0 :: rest).length (w0 :: rest).length none = (w0 :: rest).length := rfl
  unfold cutU
  rw [e1, e2]
  simp
end Dn
set_option Elab.async false
set_option linter.all false
set_option maxRecDepth 100000
set_option maxHeartbeats 2000000
namespace Dn
open PySem L2
variable [CTab]
def plL (mp : List (Key × U) → List (Key × List U) → U → Option (Bool × List (Key × U) × List (Key × List U))) : List U → List (Key × U) → List (Key × List U) → Option U
  | [], org, mad => some (plU org mad)
  | part :: r, org, mad => (splitV part (.str " ")).bind fun ws => (mp org mad ws).bind fun t => if t.1 = true then plL mp r t.2.1 t.2.2 else some .non
theorem pl_no_put {o m : Addr} : (plF o m).lookup ("put" : Str) = none := by
  have h1 : (("put" : Str) == "origins") = false := by decide +kernel
  have h2 : (("put" : Str) == "made") = false := by decide +kernel
  simp only [plF, List.lookup_cons, h1, h2, List.lookup_nil]
section
variable {B H : Hp} {K : PySem.W.Frag} {c0 : TT} {tsp : TE} {wi : TI} {v : V} {Q : VK} {nx : L2.St → Hp → Prop} {mp : List (Key × U) → List (Key × List U) → U → Option (Bool × List (Key × U) × List (Key × List U))} {E1 E2 : XK} {parts : List U} {r : U} {nb : Bool}
theorem plainOf_reads (s : Same B H) (h0 : EvT c0 [some v, none, none] B H (some nb)) (h1 : nb = true → some r = some U.non)
    (hi : nb = false → ∀ f B' H', Same B B' → EvI wi [some v, some f, none] B' H' (some parts)) (hsp : ∀ f part pv B' H', Rp B' part pv → EvO tsp [some v, some f, some pv] B' H' (op2 splitV (some part) (some (.str " "))))
    (hm : nb = false → plL mp parts [] [] = some r) (kQ : ∀ w B2 H2, Go B H B2 H2 → Rp B2 r w → Q w H2) :
    tSeq (tIfS c0 (tSeq (tRet (tC .non)) tNext) tNext) (tSeq (tAsg (tMake (CTab.ct 0) spInit [] E1 tNil) (gName 1)) (tSeq (tFor wi (gName 2) (tSeq (tIfS (tNot (tB (tMeth (CTab.ct 0) "put" (spPut mp) [] E2 (tVar 1) (tCons tsp tNil)))) (tSeq (tRet (tC .non)) tNext) tNext) tNext))
      (tSeq (tRet (tFrzA (tFrzA (tVar 1)))) tNext))) { nx := nx, rt := Q } [some v, none, none] H := by
  refine h0 nb rfl B H (At.refl s) _ fun B1 H1 g1 => ?_
  cases nb with
  | true => cases h1 rfl; exact kQ .non B1 H1 g1 .non
  | false =>
    intro x dx hx hdx hne
    have hx0 : H x = none := g1.h.free hx
    have hd0 : H dx = none := g1.h.free hdx
    have bx : B1 x = none := g1.bh.free hx
    have bd : B1 dx = none := g1.bh.free hdx
    have gm : Go B1 H1 B1 (upd (upd H1 dx (.own x)) x (.ins (CTab.ct 0) dx [])) := by
      refine ⟨fun a u e => ?_, Same.refl _, fun a u e => ?_, fun a u e => .inl e⟩
      · rw [upd_ne (ne_of_none e hx), upd_ne (ne_of_none e hdx)]; exact e
      · rw [upd_ne (ne_of_none e bx), upd_ne (ne_of_none e bd)]; exact g1.bh a u e
    refine ⟨B1, x, dx, gm.bh, rfl, upd_same, by rw [upd_ne hne, upd_same], hne.symm, bx, bd, fun B2 H2 o m g2 ho hmm P2 => ⟨rfl, ?_⟩⟩
    have g02 : Gs (fun _ => False) B H B2 H2 := (Gs.of (g1.trans gm)).base g2 fun a ha => by
      have ha : a = x := ha
      subst ha; exact .inr hx0
    have ho0 : H o = none := (g1.trans gm).h.free ho
    have hm0 : H m = none := (g1.trans gm).h.free hmm
    have hB2 : Same B B2 := g02.b
    show tSeq _ _ _ [some v, some (V.ref x), none] H2
    refine q_for g02.bh (hi rfl _ B2 H2 hB2) rfl fun B3 H3 g3 => ?_
    refine ⟨fun l σ' B' H' => ∃ (ow : Option V) (ls : List Addr) (org : List (Key × U)) (mad : List (Key × List U)), σ' = [some v, some (V.ref x), ow] ∧ Gs (fun _ => False) B H B' H' ∧ Same B3 B' ∧ (∀ l ∈ ls, H l = none) ∧ PlO B' H' x dx o m ls org mad ∧ plL mp l org mad = some r, ?_, ?_, ?_, ?_⟩
    · exact ⟨none, [], [], [], rfl, g02.trans (.of g3), Same.refl _, (fun l hl => by cases hl), P2.go g3, hm rfl⟩
    · rintro l σ' B' H' ⟨ow, ls, org, mad, _, g', sb, _⟩
      exact ⟨sb, g'.bh⟩
    · rintro u l pv σ' B' H' B'' H'' ⟨ow, ls, org, mad, rfl, g', sb, hls, P', ha⟩ gq rq
      obtain ⟨ws, ews, ha⟩ := bind_some ha
      obtain ⟨⟨b, org', mad'⟩, et, ha⟩ := bind_some ha
      have Pq := P'.go gq
      have gq' := g'.trans (.of gq)
      show tSeq _ tNext _ [some v, some (V.ref x), some pv] H''
      refine ⟨_, rfl, x, dx, _, rfl, Pq.hx, pl_no_put, hsp (.ref x) u pv B'' H'' rq ws (by simp [op2, ews]) B'' H'' (At.refl gq.bh) _ fun wv B4 H4 g4 r4 => ?_⟩
      have P4 := Pq.go g4
      refine ⟨B4, x, dx, o, m, ls, org, mad, wv, ws, b, org', mad', g4.bh, rfl, P4, r4, et, fun B5 H5 ls2 g5 hl2 P5 => ⟨b, rfl, ?_⟩⟩
      have g04 : Gs (fun _ => False) B H B4 H4 := gq'.trans (.of g4)
      have hA : ∀ a ∈ plA x dx o m ls, H a = none := fun a ha => by
        simp only [plA, List.mem_cons] at ha
        rcases ha with rfl | rfl | rfl | rfl | ha
        · exact hx0
        · exact hd0
        · exact ho0
        · exact hm0
        · exact hls a ha
      have g05 : Gs (fun _ => False) B H B5 H5 := g04.base g5 fun a ha => .inr (hA a ha)
      cases b with
      | false =>
        have ha : some U.non = some r := ha
        cases ha
        exact kQ .non B5 H5 g05.go .non
      | true =>
        have ha : plL mp l org' mad' = some r := ha
        refine ⟨B5, some pv, ls2, org', mad', rfl, g05, ((sb.trans gq.b).trans g4.b).trans g5.b, fun l' hl' => ?_, P5, ha⟩
        rcases hl2 l' hl' with h | h
        · exact hls l' h
        · exact g04.n l' h
    · rintro σ' B' H' ⟨ow, ls, org, mad, rfl, g', sb, hls, P', ha⟩
      cases ha
      obtain ⟨n1, n2, n3, n4, n5, n6, n7, n8, n9, n10⟩ := P'.ne
      obtain ⟨eo, eho, ro⟩ := P'.ho
      refine ⟨o, _, eho, trivial, fun ood => ⟨m, .dK ((mad.map (·.1)).zip (ls.map V.ref)), (by rw [upd_ne n8.symm]; exact P'.hm), trivial, fun mod' => ⟨_, rfl, ?_⟩⟩⟩
      obtain ⟨sB, rv⟩ := P'.val g'.bh ood mod' eho
      have hA : ∀ a ∈ plA x dx o m ls, H a = none := fun a ha => by
        simp only [plA, List.mem_cons] at ha
        rcases ha with rfl | rfl | rfl | rfl | ha
        · exact hx0
        · exact hd0
        · exact ho0
        · exact hm0
        · exact hls a ha
      refine kQ _ (lay (plA x dx o m ls) (upd (upd H' o (.frz ood (.dK eo))) m (.frz mod' (.dK ((mad.map (·.1)).zip (ls.map V.ref))))) B') _ ⟨fun a u e => ?_, g'.b.trans (P'.same _), sB, fun a u e => ?_⟩ rv
      · rw [upd_ne (ne_of_none e hm0), upd_ne (ne_of_none e ho0)]; exact g'.go.h a u e
      · by_cases hin : a ∈ plA x dx o m ls
        · exact .inr (hA a hin)
        · rw [lay_out hin] at e
          exact g'.go.fr a u e
end
end Dn
set_option Elab.async false
set_option linter.all false
set_option maxRecDepth 100000
set_option maxHeartbeats 2000000
namespace Dn
open PySem PySem.Spec PyProof.Rows L2
variable [CTab]
/-! ### zip whose pair is held: over iterators of any kind -/
section
variable {prog : Program} {w : World} {A : Around} {E : Value → Shared → Prop} {s : Shared} {z TI TO T i1 i2 : Addr} {fp1 fp2 : List Addr} {n1 n2 i : Nat} {P1 P2 : Nat → Value → Prop} {St1 St2 : Nat → Heap → Prop} {f : Bool} {oT : Obj}
theorem zipH_item {Q : Value → Shared → Prop} (S : ZipSep2 z TI TO i1 i2 fp1 fp2) (D1 : Draws prog w A i1 fp1 n1 P1 St1) (D2 : Draws prog w A i2 fp2 n2 P2 St2)
    (hz : IsZipHeld s.heap z TI TO T f) (hT : s.heap.get? T = some oT) (hTI : IsTupOf2 s.heap TI (.ref i1) (.ref i2)) (st1 : St1 i s.heap) (st2 : St2 i s.heap) (hlt1 : i < n1) (hlt2 : i < n2)
    (hQ : ∀ x1 x2 h' tk, P1 i x1 → P2 i x2 → IsZipHeld h' z TI TO T true → St1 (i + 1) h' → St2 (i + 1) h' → IsTupOf2 h' s.heap.objs.size x1 x2 → h'.objs.size = s.heap.objs.size + 1 →
      (∀ c o, c ≠ z → c ≠ i1 → c ≠ i2 → s.heap.get? c = some o → h'.get? c = some o) → Q (.ref s.heap.objs.size) { s with heap := h', toks := tk }) :
    wpAny (model prog w) A (Builtin.«zip.__next__» ⟨[.ref z], []⟩) (fun fin s' => ∃ v, fin = .done (.ret v) ∧ Q v s') E s := by
  obtain ⟨hp, g, d, tk0, os⟩ := s
  show wpAny _ _ (field (.ref z) 2 >>= _) _ _ _
  refine wpAny_bind (wpAny_field hz rfl (x := .bool false) rfl ?_)
  show wpAny _ _ (field (.ref z) 3 >>= _) _ _ _
  refine wpAny_bind (wpAny_field hz rfl (x := .ref TI) rfl ?_)
  refine wpAny_bind (wpAny_seqItems hTI rfl ?_)
  show wpAny _ _ (Builtin.SmallTypes.ownedTupleIsFree (.ref z) >>= _) _ _ _
  refine wpAny_bind (wpAny_tupleHeld_zip hz hT fun g0 hz0 hs0 => ?_)
  replace hs0 : Heap.SameBut z hp g0 := hs0
  simp only [Bool.false_eq_true, if_false]
  refine wpAny_bind ?_
  rw [← Array.forIn_toList]
  simp only [List.forIn_cons, List.forIn_nil]
  refine wpAny_bind (wpAny_bind (wpAny_holding ?_))
  show wpAny _ _ (Builtin.SmallTypes.nextOf (.ref i1) >>= _) _ _ ⟨g0, g, d, tk0, os⟩
  refine wpAny_bind (D1.item i _ _ _ hlt1 (D1.over st1 hs0 S.zf1) fun x1 p1 tk1 hx1 sn1 hp1 => wpAny_pure ?_)
  replace hp1 : Heap.SameBut i1 g0 p1 := hp1
  refine wpAny_pure ?_
  refine wpAny_bind (wpAny_bind (wpAny_holding ?_))
  show wpAny _ _ (Builtin.SmallTypes.nextOf (.ref i2) >>= _) _ _ ⟨p1, g, d, tk1, os⟩
  refine wpAny_bind (D2.item i _ _ _ hlt2 (D2.over (D2.over st2 hs0 S.zf2) hp1 S.sep1_2) fun x2 p2 tk2 hx2 sn2 hp2 => wpAny_pure ?_)
  replace hp2 : Heap.SameBut i2 p1 p2 := hp2
  refine wpAny_pure (wpAny_pure ?_)
  show wpAny _ _ (newTuple [x1, x2] >>= _) _ _ _
  refine wpAny_bind (wpAny_newTuple ?_)
  have hsz : p2.objs.size = hp.objs.size := by rw [hp2.1, hp1.1, hs0.1]
  have hzz : IsZipHeld p2 z TI TO T true := hp2.extBut _ _ S.zi2 (hp1.extBut _ _ S.zi1 hz0)
  have hkk : ∀ c o, c ≠ z → c ≠ i1 → c ≠ i2 → hp.get? c = some o → p2.get? c = some o := fun c o cz c1 c2 e => hp2.extBut _ _ c2 (hp1.extBut _ _ c1 (hs0.extBut _ _ cz e))
  have hj1 : St1 (i + 1) p2 := D1.over sn1 hp2 S.sep2_1
  refine wpAny_pure ⟨_, rfl, ?_⟩
  show Q (.ref p2.objs.size) ⟨p2.push { cls := .type "tuple", data := .seq #[x1, x2] }, g, d, tk2, os⟩
  have hpp : IsTupOf2 (p2.push { cls := .type "tuple", data := .seq #[x1, x2] }) p2.objs.size x1 x2 := Heap.get?_push_size _ rfl
  have hz4 : (p2.push { cls := .type "tuple", data := .seq #[x1, x2] }).objs.size = p2.objs.size + 1 := Heap.size_push ..
  rw [hsz] at hpp hz4 ⊢
  exact hQ x1 x2 _ tk2 hx1 hx2 (Heap.get?_push_of_some _ hzz) (D1.frame _ _ _ hj1 fun b _ o e => Heap.get?_push_of_some _ e) (D2.frame _ _ _ sn2 fun b _ o e => Heap.get?_push_of_some _ e) hpp hz4 fun c o c1 c2 c3 e => Heap.get?_push_of_some _ (hkk c o c1 c2 c3 e)
theorem zipH_end {Q : Fin → Shared → Prop} (S : ZipSep2 z TI TO i1 i2 fp1 fp2) (D1 : Draws prog w A i1 fp1 n1 P1 St1) (D2 : Draws prog w A i2 fp2 n2 P2 St2)
    (hz : IsZipHeld s.heap z TI TO T f) (hT : s.heap.get? T = some oT) (hTI : IsTupOf2 s.heap TI (.ref i1) (.ref i2)) (st1 : St1 i s.heap) (st2 : St2 i s.heap) (hle1 : i ≤ n1) (hle2 : i ≤ n2) (hend : i = n1 ∨ i = n2)
    (hE : ∀ h' tk e, (∀ c o, c ≠ z → c ≠ i1 → c ≠ i2 → s.heap.get? c = some o → h'.get? c = some o) → (∃ o, h'.get? e = some o ∧ o.cls = .type "StopIteration") → E (.ref e) { s with heap := h', toks := tk }) :
    wpAny (model prog w) A (Builtin.«zip.__next__» ⟨[.ref z], []⟩) Q E s := by
  obtain ⟨hp, g, d, tk0, os⟩ := s
  show wpAny _ _ (field (.ref z) 2 >>= _) _ _ _
  refine wpAny_bind (wpAny_field hz rfl (x := .bool false) rfl ?_)
  show wpAny _ _ (field (.ref z) 3 >>= _) _ _ _
  refine wpAny_bind (wpAny_field hz rfl (x := .ref TI) rfl ?_)
  refine wpAny_bind (wpAny_seqItems hTI rfl ?_)
  show wpAny _ _ (Builtin.SmallTypes.ownedTupleIsFree (.ref z) >>= _) _ _ _
  refine wpAny_bind (wpAny_tupleHeld_zip hz hT fun g0 hz0 hs0 => ?_)
  replace hs0 : Heap.SameBut z hp g0 := hs0
  simp only [Bool.false_eq_true, if_false]
  refine wpAny_bind ?_
  rw [← Array.forIn_toList]
  simp only [List.forIn_cons, List.forIn_nil]
  refine wpAny_bind (wpAny_bind (wpAny_holding ?_))
  show wpAny _ _ (Builtin.SmallTypes.nextOf (.ref i1) >>= _) _ _ ⟨g0, g, d, tk0, os⟩
  by_cases hlt1 : i < n1
  · refine wpAny_bind (D1.item i _ _ _ hlt1 (D1.over st1 hs0 S.zf1) fun x1 p1 tk1 hx1 sn1 hp1 => wpAny_pure ?_)
    replace hp1 : Heap.SameBut i1 g0 p1 := hp1
    refine wpAny_pure ?_
    refine wpAny_bind (wpAny_bind (wpAny_holding ?_))
    show wpAny _ _ (Builtin.SmallTypes.nextOf (.ref i2) >>= _) _ _ ⟨p1, g, d, tk1, os⟩
    have hi2 : i = n2 := by omega
    refine wpAny_bind (D2.done ⟨p1, g, d, tk1, os⟩ _ _ (by rw [← hi2]; exact (D2.over (D2.over st2 hs0 S.zf2) hp1 S.sep1_2)) fun q e hq he => ?_)
    replace hq : Heap.ExtBut i2 p1 q := hq
    exact hE q tk1 e (fun c o cz c1 c2 x => hq _ _ c2 (hp1.extBut _ _ c1 (hs0.extBut _ _ cz x))) he
  · have hi1 : i = n1 := by omega
    refine wpAny_bind (D1.done ⟨g0, g, d, tk0, os⟩ _ _ (by rw [← hi1]; exact (D1.over st1 hs0 S.zf1)) fun q e hq he => ?_)
    replace hq : Heap.ExtBut i1 g0 q := hq
    exact hE q tk0 e (fun c o cz c1 c2 x => hq _ _ c1 (hs0.extBut _ _ cz x)) he
theorem nextH_item {Q : Option Value → Shared → Prop} (S : ZipSep2 z TI TO i1 i2 fp1 fp2) (D1 : Draws prog w A.in1 i1 fp1 n1 P1 St1) (D2 : Draws prog w A.in1 i2 fp2 n2 P2 St2)
    (hz : IsZipHeld s.heap z TI TO T f) (hT : s.heap.get? T = some oT) (hTI : IsTupOf2 s.heap TI (.ref i1) (.ref i2)) (st1 : St1 i s.heap) (st2 : St2 i s.heap) (hlt1 : i < n1) (hlt2 : i < n2)
    (hQ : ∀ x1 x2 h' tk, P1 i x1 → P2 i x2 → IsZipHeld h' z TI TO T true → St1 (i + 1) h' → St2 (i + 1) h' → IsTupOf2 h' s.heap.objs.size x1 x2 → h'.objs.size = s.heap.objs.size + 1 →
      (∀ c o, c ≠ z → c ≠ i1 → c ≠ i2 → s.heap.get? c = some o → h'.get? c = some o) → Q (some (.ref s.heap.objs.size)) { s with heap := h', toks := tk }) :
    wpAny (model prog w) A (pyNext (.ref z)) Q E s := by
  have hTy : s.TypeIs (.ref z) "zip" := ⟨_, hz, rfl⟩
  unfold pyNext
  exact wpAny_bind (wpAny_attempt (wpAny_callSpecial?_slot (name := Str.ofString "__next__") hTy F.slot_zip_next
    (wpAny_call_entry F.slot_zip_next hTy F.entry_zip_next
      (zipH_item S D1 D2 hz hT hTI st1 st2 hlt1 hlt2 fun x1 x2 h' tk a1 a2 a3 a4 a5 a6 a7 a8 => wpAny_pure (hQ x1 x2 h' tk a1 a2 a3 a4 a5 a6 a7 a8)) (F.args_zip_next_1 _))))
theorem nextH_end {Q : Option Value → Shared → Prop} (S : ZipSep2 z TI TO i1 i2 fp1 fp2) (D1 : Draws prog w A.in1 i1 fp1 n1 P1 St1) (D2 : Draws prog w A.in1 i2 fp2 n2 P2 St2)
    (hz : IsZipHeld s.heap z TI TO T f) (hT : s.heap.get? T = some oT) (hTI : IsTupOf2 s.heap TI (.ref i1) (.ref i2)) (st1 : St1 i s.heap) (st2 : St2 i s.heap) (hle1 : i ≤ n1) (hle2 : i ≤ n2) (hend : i = n1 ∨ i = n2)
    (hQ : ∀ h' tk, (∀ c o, c ≠ z → c ≠ i1 → c ≠ i2 → s.heap.get? c = some o → h'.get? c = some o) → Q none { s with heap := h', toks := tk }) : wpAny (model prog w) A (pyNext (.ref z)) Q E s := by
  have hTy : s.TypeIs (.ref z) "zip" := ⟨_, hz, rfl⟩
  unfold pyNext
  refine wpAny_bind (wpAny_attempt (wpAny_callSpecial?_slot (name := Str.ofString "__next__") hTy F.slot_zip_next
    (wpAny_call_entry F.slot_zip_next hTy F.entry_zip_next (zipH_end S D1 D2 hz hT hTI st1 st2 hle1 hle2 hend fun h' tk e hk he => ?_) (F.args_zip_next_1 _))))
  obtain ⟨o, ho, hc⟩ := he
  refine wpAny_bind (wpAny_isInstance (T := "StopIteration") (b := true) ⟨o, ho, hc⟩ isSubtype_stop ?_)
  exact wpAny_pure (hQ _ _ hk)
end
/-- zip of two sequences, lists or tuples, as an argument of dict() -/
theorem pairArg_zipX {prog : Program} {w : World} {z TI TO i1 i2 l1 l2 : Addr} {ka kb : Bool} (S : ZipSep2 z TI TO i1 i2 [i1, l1] [i2, l2]) (n1' : l1 ≠ i1) (n2' : l2 ≠ i2) (l1z : l1 ≠ z) (l2z : l2 ≠ z) (xs ys : Array Value) :
    PairArg prog w "zip" z [z, TI, TO, i1, i2, l1, l2] [z, TO, i1, i2] (min xs.size ys.size) (fun i k v => xs[i]? = some k ∧ ys[i]? = some v)
      (fun h => IsZip h z TI TO .none ∧ IsTupOf2 h TI (.ref i1) (.ref i2) ∧ (∃ a b, IsTupOf2 h TO a b) ∧ (IterX ka h i1 l1 0 ∧ IsX ka h l1 xs) ∧ (IterX kb h i2 l2 0 ∧ IsX kb h l2 ys)) where
  type := fun s ok => ⟨_, ok.1, rfl⟩
  notDict := by decide
  keep := fun h h' ok hk => by
    obtain ⟨hz, hTI, ⟨a, b, hTO⟩, ⟨h1, hl1⟩, ⟨h2, hl2⟩⟩ := ok
    refine ⟨hk _ _ hz, hk _ _ hTI, ⟨a, b, hk _ _ hTO⟩, ⟨h1.at fun o e => hk _ o e, ?_⟩, ⟨h2.at fun o e => hk _ o e, ?_⟩⟩
    · cases ka with
      | true => exact (show h.IsTuple l1 xs from hl1).at fun o e => hk _ o e
      | false => exact (show h.IsList l1 xs from hl1).at fun o e => hk _ o e
    · cases kb with
      | true => exact (show h.IsTuple l2 ys from hl2).at fun o e => hk _ o e
      | false => exact (show h.IsList l2 ys from hl2).at fun o e => hk _ o e
  there := fun h ok b hb => by
    obtain ⟨hz, hTI, ⟨a, c, hTO⟩, ⟨h1, hl1⟩, ⟨h2, hl2⟩⟩ := ok
    obtain ⟨o1, e1, _⟩ := h1.ob
    obtain ⟨o2, e2, _⟩ := h2.ob
    have e3 : ∃ o, h.get? l1 = some o := by
      cases ka with
      | true => obtain ⟨o, e, _⟩ := (show h.IsTuple l1 xs from hl1); exact ⟨o, e⟩
      | false => obtain ⟨o, e, _⟩ := (show h.IsList l1 xs from hl1); exact ⟨o, e⟩
    have e4 : ∃ o, h.get? l2 = some o := by
      cases kb with
      | true => obtain ⟨o, e, _⟩ := (show h.IsTuple l2 ys from hl2); exact ⟨o, e⟩
      | false => obtain ⟨o, e, _⟩ := (show h.IsList l2 ys from hl2); exact ⟨o, e⟩
    simp only [List.mem_cons, List.not_mem_nil, or_false] at hb
    rcases hb with rfl | rfl | rfl | rfl | rfl | rfl | rfl
    all_goals first | exact ⟨_, hz⟩ | exact ⟨_, hTI⟩ | exact ⟨_, hTO⟩ | exact ⟨_, e1⟩ | exact ⟨_, e2⟩ | exact e3 | exact e4
  sub := fun b hb => by simp at hb ⊢; rcases hb with rfl | rfl | rfl | rfl <;> simp
  noKeys := fun A s Q E hA ok h => getAttrOr_miss_zip ok.1 rfl rfl rfl zip_no_keys (by decide +kernel) hA h
  iter := fun A s d Q E hA ok hd hdf h => by
    obtain ⟨hz, hTI, ⟨a, b, hTO⟩, st1, st2⟩ := ok
    simp only [List.mem_cons, List.not_mem_nil, or_false, not_or] at hdf
    obtain ⟨dz, dTI, dTO, di1, di2, dl1, dl2⟩ := hdf
    have hAi : A.in1.handled = none := hA
    have D1 := drawsX (prog := prog) (w := w) hAi ka i1 l1 n1' xs
    have D2 := drawsX (prog := prog) (w := w) hAi kb i2 l2 n2' ys
    refine wpAny_pyIter_zip hz (h z [z, TO, i1, i2] (fun i h => IsTupOf2 h TI (.ref i1) (.ref i2) ∧ (IterX ka h i1 l1 i ∧ IsX ka h l1 xs) ∧ (IterX kb h i2 l2 i ∧ IsX kb h l2 ys) ∧
      ((IsZip h z TI TO .none ∧ ∃ a b, IsTupOf2 h TO a b) ∨ ∃ T f oT, IsZipHeld h z TI TO T f ∧ h.get? T = some oT ∧ T ≠ z ∧ T ≠ i1 ∧ T ≠ i2 ∧ T ≠ d)) s.heap s.toks ?_
      ⟨hTI, st1, st2, .inl ⟨hz, a, b, hTO⟩⟩ (fun _ _ e => e) fun b hb => .inl hb)
    exact {
      off := fun hm => by
        simp only [List.mem_cons, List.not_mem_nil, or_false] at hm
        rcases hm with e | e | e | e
        · exact dz e
        · exact dTO e
        · exact di1 e
        · exact di2 e
      frame := fun i h₁ h₂ st hk => by
        obtain ⟨hTI, st1, st2, hz⟩ := st
        refine ⟨hk _ _ (Ne.symm dTI) hTI, D1.frame _ _ _ st1 fun b hb o e => hk b o (fun q => by simp at hb; rcases hb with hb | hb; exact di1 (q.symm.trans hb); exact dl1 (q.symm.trans hb)) e, D2.frame _ _ _ st2 fun b hb o e => hk b o (fun q => by simp at hb; rcases hb with hb | hb; exact di2 (q.symm.trans hb); exact dl2 (q.symm.trans hb)) e, ?_⟩
        rcases hz with ⟨hz, a, b, hTO⟩ | ⟨T, f, oT, hz, hT, r1, r2, r3, r4⟩
        · exact .inl ⟨hk _ _ (Ne.symm dz) hz, a, b, hk _ _ (Ne.symm dTO) hTO⟩
        · exact .inr ⟨T, f, oT, hk _ _ (Ne.symm dz) hz, hk _ _ r4 hT, r1, r2, r3, r4⟩
      item := fun i s₁ Q₁ E₁ hi st hds hQ => by
        obtain ⟨hTI, st1, st2, hz⟩ := st
        have hix : i < xs.size := Nat.lt_of_lt_of_le hi (Nat.min_le_left ..)
        have hiy : i < ys.size := Nat.lt_of_lt_of_le hi (Nat.min_le_right ..)
        have lt : ∀ {c o}, s₁.heap.get? c = some o → s₁.heap.objs.size ≠ c := fun e => Nat.ne_of_gt (Heap.lt_size e)
        have m1 : s₁.heap.objs.size ≠ i1 := let ⟨_, e, _⟩ := st1.1.ob; lt e
        have m2 : s₁.heap.objs.size ≠ i2 := let ⟨_, e, _⟩ := st2.1.ob; lt e
        rcases hz with ⟨hz, a, b, hTO⟩ | ⟨T, f, oT, hz, hT, r1, r2, r3, r4⟩
        · refine wpAny_pyNext_zipD2_item S D1 D2 hz hTI hTO st1 st2 hix hiy fun x1 x2 h' tk p1 p2 a1 a2 a3 a4 a5 a6 hk => ?_
          exact hQ s₁.heap.objs.size _ _ h' tk ⟨p1, p2⟩ (.inl ⟨_, a5, rfl, _, rfl⟩)
            ⟨hk _ _ S.TIz S.TITO S.TIi1 S.TIi2 hTI, a3, a4, .inr ⟨s₁.heap.objs.size, false, _, a1, a5, lt hz, m1, m2, Nat.ne_of_gt hds⟩⟩
            fun c o hc e => hk c o (fun x => hc (by simp [x])) (fun x => hc (by simp [x])) (fun x => hc (by simp [x])) (fun x => hc (by simp [x])) e
        · refine nextH_item S D1 D2 hz hT hTI st1 st2 hix hiy fun x1 x2 h' tk p1 p2 a1 a3 a4 a5 a6 hk => ?_
          exact hQ s₁.heap.objs.size _ _ h' tk ⟨p1, p2⟩ (.inl ⟨_, a5, rfl, _, rfl⟩)
            ⟨hk _ _ S.TIz S.TIi1 S.TIi2 hTI, a3, a4, .inr ⟨T, true, oT, a1, hk _ _ r1 r2 r3 hT, r1, r2, r3, r4⟩⟩
            fun c o hc e => hk c o (fun x => hc (by simp [x])) (fun x => hc (by simp [x])) (fun x => hc (by simp [x])) e
      done := fun s₁ Q₁ E₁ st hQ => by
        obtain ⟨hTI, st1, st2, hz⟩ := st
        have e1 : min xs.size ys.size ≤ xs.size := Nat.min_le_left ..
        have e2 : min xs.size ys.size ≤ ys.size := Nat.min_le_right ..
        have hend : min xs.size ys.size = xs.size ∨ min xs.size ys.size = ys.size := by omega
        rcases hz with ⟨hz, a, b, hTO⟩ | ⟨T, f, oT, hz, hT, r1, r2, r3, r4⟩
        · exact wpAny_pyNext_zipD2_end S D1 D2 hz hTI hTO st1 st2 e1 e2 hend fun h' tk hk => hQ h' tk fun c o hc e => hk c o (fun x => hc (by simp [x])) (fun x => hc (by simp [x])) (fun x => hc (by simp [x])) (fun x => hc (by simp [x])) e
        · exact nextH_end S D1 D2 hz hT hTI st1 st2 e1 e2 hend fun h' tk hk => hQ h' tk fun c o hc e => hk c o (fun x => hc (by simp [x])) (fun x => hc (by simp [x])) (fun x => hc (by simp [x])) e }
end Dn
set_option Elab.async false
set_option linter.all false
set_option maxRecDepth 100000
set_option maxHeartbeats 2000000
namespace Dn
open PySem PySem.Spec PyProof.Rows L2
variable [CTab]
def mergeT (kvs more : List (List Key × V)) : List (List Key × V) := more.foldl (fun acc kv => putK acc kv.1 kv.2) kvs
theorem length_mergeT : ∀ (more kvs : List (List Key × V)), (mergeT kvs more).length ≤ kvs.length + more.length
  | [], kvs => by show kvs.length ≤ kvs.length + 0; omega
  | p :: r, kvs => by
    have h1 := length_mergeT r (putK kvs p.1 p.2)
    have h2 := length_putK kvs p.1 p.2
    show (mergeT (putK kvs p.1 p.2) r).length ≤ _
    rw [List.length_cons]; omega
/-- dict(zip(a, b)) -/
def tDZ (K : PySem.W.Frag) (ta : TA) : TE := fun σ H Q => ta σ H fun vs H2 => ∃ ka kb a b xs ys, vs = [.ref a, .ref b] ∧ SqX K H2 ka a xs ∧ SqX K H2 kb b ys ∧ xs.length ≤ lim ∧
  ((∃ ks : List Key, xs = ks.map kV ∧ ∀ p, H2 p = none → Q (.ref p) (upd H2 p (.dK (mergeK [] (ks.zip ys))))) ∨
   (∃ (ks : List (List Key)) (bs : List Addr), xs = bs.map V.ref ∧ ks.length = bs.length ∧ (∀ (j : Nat) k b, ks[j]? = some k → bs[j]? = some b → H2 b = some (.tup (k.map kV))) ∧ ∀ p, H2 p = none → Q (.ref p) (upd H2 p (.dT (mergeT [] (ks.zip ys))))))
theorem kv_zip : ∀ {ks : List Key} {ys : List V} {us : List Value}, Vals ys us → KV (ks.zip ys) (ks.zip us)
  | [], _, _, _ => by rw [List.zip_nil_left, List.zip_nil_left]; exact .nil
  | _ :: _, _, _, .nil => by rw [List.zip_nil_right, List.zip_nil_right]; exact .nil
  | k :: ks, _, _, .cons h t => .cons ⟨rfl, h⟩ (kv_zip t)
theorem kt_merge {H : Hp} : ∀ (ks : List (List Key)) {bs : List Addr} {ys : List V} {us : List Value} {kvs : List (List Key × V)} {xs : List (List Key × Addr × Value)}, ks.length = bs.length → (∀ (j : Nat) k b, ks[j]? = some k → bs[j]? = some b → H b = some (.tup (k.map kV))) → Vals ys us → KT H kvs xs →
    KT H (mergeT kvs (ks.zip ys)) (storedAllH xs (ks.zip (bs.zip us)))
  | [], _, _, _, _, _, _, _, _, r => by rw [List.zip_nil_left, List.zip_nil_left]; exact r
  | k :: ks, [], _, _, _, _, h, _, _, _ => by simp at h
  | k :: ks, b :: bs, _, _, _, _, h, hb, v, r => by
    cases v with
    | nil => simp only [List.zip_nil_right]; exact r
    | cons h1 t =>
      have := KT.put r k (hb 0 k b rfl rfl) h1
      exact kt_merge ks (by simpa using h) (fun j k' b' e1 e2 => hb (j + 1) k' b' (by simpa using e1) (by simpa using e2)) t this
theorem pe_dictzip {X : Cx} {K : PySem.W.Frag} {e e2 : Expr} {ta tb : TE} {p0 pos p pos2 : Pos} (hK : X.K = K) (hc : X.calm = true) (hu : X.A.units + 64 < cLine) (hgd : Gl X "dict") (hmd : X.mg "dict" = none) (hg : Gl X "zip") (hm : X.mg "zip" = none) (h1 : PE X e ta) (h2 : PE X e2 tb)
    (hs1 : starEach [.Call (.Name "zip" p) [e, e2] [] pos2] X.env = (false, eval (.Call (.Name "zip" p) [e, e2] [] pos2) X.env) :: starEach [] X.env := by rfl) (hp1 : (backTo pos (starEach [] X.env)).any (·.1) = false := by rfl)
    (he1 : starEach [e, e2] X.env = (false, eval e X.env) :: starEach [e2] X.env := by rfl) (he2 : starEach [e2] X.env = (false, eval e2 X.env) :: starEach [] X.env := by rfl) (hpl : (backTo pos2 (starEach [e2] X.env)).any (·.1) = false := by rfl) :
    PE X (.Call (.Name "dict" p0) [.Call (.Name "zip" p) [e, e2] [] pos2] [] pos) (tDZ K (tCons ta (tCons tb tNil))) := by
  subst hK
  have ha : PA X [e, e2] (tCons ta (tCons tb tNil)) := pa_cons h1 (pa_cons h2 pa_nil he2) he1
  refine ⟨fun pins s σ H Q I h => ?_⟩
  refine wpAny_Call_Name_kw (ld_blt I hgd hmd boot_dict ?_)
  refine PyProof.Rows.callWith_type1 ?_ hs1 hp1
  rw [hs1]
  show wpAny _ _ (spliced ((false, eval (.Call (.Name "zip" p) [e, e2] [] pos2) X.env) :: backTo pos (starEach [] X.env))) _ _ s
  refine Calls.spliced_cons ?_
  refine wpAny_Call_Name_kw (ld_blt I hg hm boot_zip ?_)
  refine PyProof.Rows.callWith_type1 (thn (ha.run pos2 pins s σ H _ I h) fun us s1 ⟨vs, H1, I1, r1, ka, kb, a, b, xs, ys, ev, hqx, hqy, hlx, q⟩ => ?_) he1 hpl
  subst ev
  cases r1 with
  | cons r rr =>
    cases rr with
    | cons r' rr =>
      cases rr
      cases r
      cases r'
      obtain ⟨its, rv, p1, la⟩ := sqx_of I1 hqx
      obtain ⟨its2, rv2, p2, lb⟩ := sqx_of I1 hqy
      obtain ⟨o1, b1, it1⟩ := beginsX ka a its.toArray
      obtain ⟨o2, b2, it2⟩ := beginsX kb b its2.toArray
      refine zip_begins2 b1 b2 p1 p2 fun h1' hz hTI hTO g1 g2 hsz hk => Calls.spliced_nil ?_
      have hh : X.A.handled = none := I1.ok.hd hc
      have S := zip_sep2 (N := s1.heap.objs.size) (fp1 := [a]) (fp2 := [b]) (by simpa using la) (by simpa using lb)
      have P := pairArg_zipX (prog := X.prog) (w := X.w) (ka := ka) (kb := kb) S (Nat.ne_of_lt la) (Nat.ne_of_lt (Nat.lt_succ_of_lt lb)) (Nat.ne_of_lt (Nat.lt_of_lt_of_le la (Nat.le_add_right _ _))) (Nat.ne_of_lt (Nat.lt_of_lt_of_le lb (Nat.le_add_right _ _))) its.toArray its2.toArray
      have kx : ∀ (k : Bool) (c : Addr) (l : List Value), IsX k s1.heap c l.toArray → IsX k h1' c l.toArray := fun k c l hx => by
        cases k with
        | true => exact (show s1.heap.IsTuple c l.toArray from hx).at fun o e => hk _ o e
        | false => exact (show s1.heap.IsList c l.toArray from hx).at fun o e => hk _ o e
      have ok : IsZip h1' (s1.heap.objs.size + 4) (s1.heap.objs.size + 2) (s1.heap.objs.size + 3) .none ∧ IsTupOf2 h1' (s1.heap.objs.size + 2) (.ref s1.heap.objs.size) (.ref (s1.heap.objs.size + 1)) ∧ (∃ a b, IsTupOf2 h1' (s1.heap.objs.size + 3) a b) ∧
          (IterX ka h1' s1.heap.objs.size a 0 ∧ IsX ka h1' a its.toArray) ∧ (IterX kb h1' (s1.heap.objs.size + 1) b 0 ∧ IsX kb h1' b its2.toArray) := ⟨hz, hTI, ⟨_, _, hTO⟩, ⟨it1 _ _ g1, kx ka a its p1⟩, ⟨it2 _ _ g2, kx kb b its2 p2⟩⟩
      have l1 := rv.length
      have l2 := rv2.length
      have hn : min its.toArray.size its2.toArray.size ≤ sizeLine := by
        have := lim_size hlx
        simp only [List.size_toArray]; omega
      have old : ∀ c o, s1.heap.get? c = some o → c ∉ [s1.heap.objs.size + 4, s1.heap.objs.size + 3, s1.heap.objs.size, s1.heap.objs.size + 1] := fun c o e hm => by
        have := Heap.lt_size e
        simp only [List.mem_cons, List.not_mem_nil, or_false] at hm
        rcases hm with q | q | q | q
        all_goals rw [q] at this
        all_goals first | exact Nat.lt_irrefl _ this | exact absurd this (Nat.not_lt.mpr (Nat.le_add_right _ _))
      have low : (h1'.objs.size == sysModules) = false := by
        have := I1.big
        rw [hsz]
        exact beq_eq_false_iff_ne.mpr (Nat.ne_of_gt (Nat.lt_of_lt_of_le this (Nat.le_add_right _ _)))
      have hle : s1.heap.objs.size ≤ h1'.objs.size := by rw [hsz]; exact Nat.le_add_right _ _
      rcases q with ⟨ks, ex, q⟩ | ⟨ks, bs, ex, hkl, hbs, q⟩
      · subst ex
        refine call_dict_pairs (s := { s1 with heap := h1' }) (knd := mixKind X.prog X.w) (kvs := ks.zip its2) P hh ok ⟨?_, fun i key v hR => ?_⟩ hn fun h' tk dd hk' => ?_
        · simp only [List.length_zip, List.size_toArray]
          rw [List.length_map] at l1
          omega
        · obtain ⟨e1, e2⟩ := hR
          have e1 : its[i]? = some key := by simpa using e1
          have e2 : its2[i]? = some v := by simpa using e2
          have hi : i < ks.length := by
            have := (List.getElem?_eq_some_iff.mp e1).1
            rw [List.length_map] at l1
            omega
          obtain ⟨u, eu, ru⟩ := rv.get (i := i) (x := kV ks[i]) (by simp [hi])
          rw [e1] at eu
          cases eu
          refine ⟨ks[i], ?_, kV_is ru⟩
          rw [List.getElem?_zip_eq_some]
          exact ⟨by simp [hi], e2⟩
        · refine ⟨.ref h1'.objs.size, _, I1.laid (t' := tk) (fun c o e => hk' c o (old c o e) (hk c o e)) hle ?_, rfl, q _ (I1.hok.fresh hle)⟩
          refine dk_new ?_ low ((kv_zip rv2).merge .nil) dd
          have h1 := length_mergeK (ks.zip ys) []
          have h2 := lim_size hlx
          rw [List.length_nil, List.length_zip] at h1
          rw [List.length_map] at h2
          omega
      · subst ex
        refine call_dict_pairsH (s := { s1 with heap := h1' }) (knd := tupleKind (mixKind X.prog X.w)) (ps := ks.zip (bs.zip its2)) P hh (show X.A.units + 1 + 1 < cLine by omega) ok ⟨?_, fun i key v hR => ?_⟩ (fun h' hk' x hx => ?_) hn fun h' tk dd hk' => ?_
        · simp only [List.length_zip, List.size_toArray]
          rw [List.length_map] at l1
          omega
        · obtain ⟨e1, e2⟩ := hR
          have e1 : its[i]? = some key := by simpa using e1
          have e2 : its2[i]? = some v := by simpa using e2
          have hi : i < bs.length := by
            have := (List.getElem?_eq_some_iff.mp e1).1
            rw [List.length_map] at l1
            omega
          have hi' : i < ks.length := by omega
          obtain ⟨u, eu, ru⟩ := rv.get (i := i) (x := V.ref bs[i]) (by simp [hi])
          rw [e1] at eu
          cases eu
          refine ⟨ks[i], bs[i], ?_, ru⟩
          rw [List.getElem?_zip_eq_some]
          refine ⟨by simp [hi'], ?_⟩
          rw [List.getElem?_zip_eq_some]
          exact ⟨by simp [hi], e2⟩
        · obtain ⟨i, hi, ei⟩ := List.getElem_of_mem hx
          have e0 : (ks.zip (bs.zip its2))[i]? = some x := List.getElem?_eq_some_iff.mpr ⟨hi, ei⟩
          rw [List.getElem?_zip_eq_some] at e0
          obtain ⟨e1, e0⟩ := e0
          rw [List.getElem?_zip_eq_some] at e0
          obtain ⟨e2, _⟩ := e0
          have hb := hbs i x.1 x.2.1 e1 e2
          obtain ⟨o, its', n, a1, a2, a3, a4⟩ := key_of I1.hok hb
          have hlt := Heap.lt_size a1
          refine ⟨o, its', n, hk' _ _ ?_ (old _ _ a1) (hk _ _ a1), a2, a3, a4⟩
          show x.2.1 ≠ h1'.objs.size
          rw [hsz]
          exact Nat.ne_of_lt (Nat.lt_of_lt_of_le hlt (Nat.le_add_right _ _))
        · obtain ⟨od, es, ep, hq, d2, d3, d4, _, d5⟩ := dd
          refine ⟨.ref h1'.objs.size, _, I1.laid (t' := tk) (fun c o e => hk' c o (old c o e) (hk c o e)) hle ?_, rfl, q _ (I1.hok.fresh hle)⟩
          refine ⟨?_, low, _, (kt_merge ks hkl hbs rv2 .nil).keeps fun c zs ec => ?_, od, es, ep, hq, d2, d3, d4, d5⟩
          · have h1 := length_mergeT (ks.zip ys) []
            have h2 := lim_size hlx
            rw [List.length_nil, List.length_zip] at h1
            rw [List.length_map] at h2
            omega
          · rw [upd_ne (ne_of_none ec (I1.hok.fresh hle))]; exact ec
end Dn
set_option Elab.async false
set_option linter.all false
set_option maxRecDepth 100000
set_option maxHeartbeats 2000000
namespace Dn
open PySem L2
variable [CTab]
/-! ### what an expression gives is locked for good -/
def tFrz (te : TE) : TE := fun σ H Q => te σ H fun v H1 => ∃ d u, v = .ref d ∧ H1 d = some u ∧ Mut (some u) ∧ ∀ od, Q v (upd H1 d (.frz od u))
theorem pe_frz {X : Cx} {e : Expr} {t : TE} (h : PE X e t) : PE X e (tFrz t) := by
  refine ⟨fun pins s σ H Q I hw => ?_⟩
  refine thn (h.run pins s σ H _ I hw) fun v s1 ⟨x, H1, I1, r1, d, u, ex, hd, mu, q⟩ => ?_
  obtain ⟨od, I2⟩ := I1.lock hd mu
  exact ⟨x, _, I2, r1, q od⟩
def mergeU {κ : Type} [DecidableEq κ] (kvs more : List (κ × U)) : List (κ × U) := more.foldl (fun acc kv => putU acc kv.1 kv.2) kvs
theorem Rpk.merge {B : Hp} : ∀ (ks : List Key) {ys : List U} {vs : List V} {kvs : List (Key × U)} {es : List (Key × V)}, Rps B ys vs → Rpk B kvs es → Rpk B (mergeU kvs (ks.zip ys)) (mergeK es (ks.zip vs))
  | [], _, _, _, _, _, r => by rw [List.zip_nil_left, List.zip_nil_left]; exact r
  | k :: ks, _, _, _, _, .nil, r => by rw [List.zip_nil_right, List.zip_nil_right]; exact r
  | k :: ks, _, _, _, _, .cons h t, r => Rpk.merge ks t (r.put h k)
theorem Rpt.merge {B : Hp} : ∀ (ks : List (List Key)) {ys : List U} {vs : List V} {kvs : List (List Key × U)} {es : List (List Key × V)}, Rps B ys vs → Rpt B kvs es → Rpt B (mergeU kvs (ks.zip ys)) (mergeT es (ks.zip vs))
  | [], _, _, _, _, _, r => by rw [List.zip_nil_left, List.zip_nil_left]; exact r
  | k :: ks, _, _, _, _, .nil, r => by rw [List.zip_nil_right, List.zip_nil_right]; exact r
  | k :: ks, _, _, _, _, .cons h t, r => Rpt.merge ks t (r.put h k)
def keysT : List U → Option (List (List Key))
  | [] => some []
  | .tup ys :: xs => (keysL ys).bind fun k => (keysT xs).map fun r => k :: r
  | _ :: _ => none
theorem Rps.keysT {B : Hp} : ∀ {xs : List U} {vs : List V} {ks : List (List Key)}, Rps B xs vs → keysT xs = some ks → ∃ bs : List Addr, vs = bs.map V.ref ∧ ks.length = bs.length ∧ ∀ (j : Nat) k b, ks[j]? = some k → bs[j]? = some b → B b = some (.tup (k.map kV))
  | _, _, _, .nil, h => by cases h; exact ⟨[], rfl, rfl, fun j k b e => by simp at e⟩
  | _, _, _, .cons (@Rp.tup _ _ a ys ws e r) t, h => by
    obtain ⟨k, ek, h⟩ := bind_some h
    obtain ⟨ks, eks, h⟩ := map_some h
    subst h
    obtain ⟨bs, e1, e2, e3⟩ := Rps.keysT t eks
    refine ⟨a :: bs, by rw [e1]; rfl, by simp [e2], fun j k' b h1 h2 => ?_⟩
    cases j with
    | zero => simp at h1 h2; subst h1 h2; rw [← r.keys ek]; exact e
    | succ j => exact e3 j k' b (by simpa using h1) (by simpa using h2)
def dzV (x y : U) : Option U := x.items.bind fun xs => y.items.bind fun ys => if xs.length ≤ lim then match keysL xs with
  | some ks => some (.dic (mergeU [] (ks.zip ys)))
  | none => (keysT xs).map fun ks => .dit (mergeU [] (ks.zip ys)) else none
theorem eo_dictzip {K : PySem.W.Frag} {σ : L2.St} {B H : Hp} {ta tb : TE} {oa ob : Option U} (ha : EvO ta σ B H oa) (hb : EvO tb σ B H ob) : EvO (tFrz (tDZ K (tCons ta (tCons tb tNil)))) σ B H (op2 dzV oa ob) := fun z e B1 H1 g Q q => by
  obtain ⟨x, ex, e⟩ := bind_some e
  obtain ⟨y, ey, e⟩ := bind_some e
  obtain ⟨xs, exs, e⟩ := bind_some e
  obtain ⟨ys, eys, e⟩ := bind_some e
  split at e
  · rename_i hl
    refine ha x ex B1 H1 g _ fun v B2 H2 g2 r2 => hb y ey B2 H2 (g.trans g2) _ fun w B3 H3 g3 r3 => ?_
    obtain ⟨ka, a, vs, rfl, ra, sa⟩ := sqx_items (K := K) exs (r2.up g3)
    obtain ⟨kb, b, ws, rfl, rb, sb⟩ := sqx_items (K := K) eys r3
    refine ⟨ka, kb, a, b, vs, ws, rfl, sa H3 g3.bh, sb H3 g3.bh, by rw [ra.length]; exact hl, ?_⟩
    have fin : ∀ (p : Addr) (od : Obj) (u : HO), H3 p = none → Go B1 H1 (upd B3 p (.frz od u)) (upd (upd H3 p u) p (.frz od u)) := fun p od u hp => by
      have e0 : upd (upd H3 p u) p (.frz od u) = upd H3 p (.frz od u) := by
        funext c
        by_cases hc : c = p
        · subst hc; rw [upd_same, upd_same]
        · rw [upd_ne hc, upd_ne hc, upd_ne hc]
      rw [e0]
      exact (g2.trans g3).trans (Go.new g3.bh hp)
    have sm : ∀ (p : Addr) (o : HO), H3 p = none → Same B3 (upd B3 p o) := fun p o hp => same_lock (g3.bh.free hp)
    split at e
    · rename_i ks eks
      cases e
      refine .inl ⟨ks, ra.keys eks, fun p hp => ⟨p, _, rfl, upd_same, trivial, fun od => ?_⟩⟩
      exact q _ _ _ (fin p od _ hp) (.dic upd_same ((Rpk.merge ks rb .nil).kp (Kp.of (sm p _ hp))))
    · obtain ⟨ks, eks, e⟩ := map_some e
      subst e
      obtain ⟨bs, e1, e2, e3⟩ := ra.keysT eks
      refine .inr ⟨ks, bs, e1, e2, fun j k b h1 h2 => g3.bh _ _ (e3 j k b h1 h2), fun p hp => ⟨p, _, rfl, upd_same, trivial, fun od => ?_⟩⟩
      exact q _ _ _ (fin p od _ hp) (.dit upd_same ((Rpt.merge ks rb .nil).kp (Kp.of (sm p _ hp))))
  · cases e
/-! ### (a, b), c = .. -/
def unpQ {α : Type} (u : U) (f : U → U → U → Option α) : Option α := (unp2 u).bind fun ab => (unp2 ab.1).bind fun cd => f cd.1 cd.2 ab.2
theorem g_nest {α : Type} {K : PySem.W.Frag} {i j l : Nat} {u : U} {v : V} {B H : Hp} {σ : L2.St} {Q : L2.St → Hp → Prop} {f : U → U → U → Option α} {m : α} (s : Same B H) (r : Rp B u v) (e : unpQ u f = some m)
    (k : ∀ a b c x y z, Rp B a x → Rp B b y → Rp B c z → f a b c = some m → Q (((σ.set i (some x)).set j (some y)).set l (some z)) H) :
    gTup K 2 (gCons (gTup K 2 (gCons (gName i) (gCons (gName j) gNil))) (gCons (gName l) gNil)) v σ H Q := by
  obtain ⟨⟨ab, c⟩, e1, e⟩ := bind_some e
  obtain ⟨⟨a, b⟩, e2, e⟩ := bind_some e
  have e1 := unp2_tup e1
  subst e1
  have e2 := unp2_tup e2
  have e2 : ab = .tup [a, b] := e2
  subst e2
  cases r with
  | @tup ad _ vs h1 r =>
    cases r with
    | cons r1 t =>
      cases t with
      | cons r2 t =>
        cases t
        cases r1 with
        | @tup ad2 _ vs2 h2 rr =>
          cases rr with
          | cons q1 t =>
            cases t with
            | cons q2 t =>
              cases t
              exact ⟨ad, _, rfl, SqT.of (s _ _ h1), rfl, _, _, rfl, ad2, _, rfl, SqT.of (s _ _ h2), rfl, _, _, rfl, _, _, rfl, rfl, _, _, rfl, rfl, k a b c _ _ _ q1 q2 r2 e⟩
end Dn
set_option Elab.async false
set_option linter.all false
set_option maxRecDepth 100000
set_option maxHeartbeats 2000000
namespace Dn
open PySem PySem.Spec PyProof.Rows L2
variable [CTab]
/-! ### a written dict with text keys and ints: d.get(x, y) -/
def tKGet (K : PySem.W.Frag) (d : Addr) (ty tx : TE) : TE := fun σ H Q => ty σ H fun y H2 => tx σ H2 fun z H3 => ∃ (t : Str) (r : Option Value), y = .str t ∧ PySem.W.nsIn K d t = some r ∧ (∀ u0, r = some u0 → ∃ v0, RelV v0 u0 ∧ Q v0 H3) ∧ (r = none → Q z H3)
theorem pe_kget {X : Cx} {o e f : Expr} {apos cpos : Pos} {d : Addr} {es : Array DictEntry} {n : Nat} {ty tx : TE} (D : KDict X.K X.w d es n) (ho : PE X o (tC (.ref d))) (he : PE X e ty) (hf : PE X f tx) (m : M2 X o "get" apos e f cpos) :
    PE X (.Call (.Attribute o "get" apos) [e, f] [] cpos) (tKGet X.K d ty tx) := by
  refine ⟨fun pins s σ H Q I h => ?_⟩
  refine wpAny_Call_method m.base m.few m.line PySem.F.plainAttrs_dict PySem.F.slot_dict_get PySem.F.type_dict_get (thn (ho.run pins s σ H (fun v H' => v = .ref d ∧ H' = H) I ⟨rfl, rfl⟩) fun u s1 ⟨x, H1, I1, rx, ex, eH⟩ => ?_)
  subst ex eH
  obtain rfl : u = Value.ref d := rx
  have mp := PySem.W.mapOf_K (prog := X.prog) (w := X.w) I1.kIn D.at_ D.lit
  refine ⟨mp.typeIs, mp.noDict, ?_⟩
  rw [m.trees]
  refine Calls.callWith_builtin rfl (Calls.evalArgs_plain (Calls.spliced_cons (thn (he.run pins s1 σ H1 _ I1 h) fun iv s2 ⟨y, H2, I2, ry, q2⟩ => Calls.spliced_cons (thn (hf.run pins s2 σ H2 _ I2 q2) fun fv s3 ⟨z, H3, I3, rz, t, r, ey, er, q3, q4⟩ => Calls.spliced_nil ?_))))
  subst ey
  obtain ⟨tk, rfl⟩ := ry
  have mp3 := PySem.W.mapOf_K (prog := X.prog) (w := X.w) I3.kIn D.at_ D.lit
  refine call_meetsIn PySem.F.slot_dict_get mp3.typeIs PySem.F.entry_dict_get (PySem.F.args_dict_get_3 _ _ _) (meets_dict_get_default (PySem.strKind X.prog X.w) d (PySem.strKind_is X.prog X.w t tk) D.low fv) ⟨_, mp3, ?_⟩
  rw [PySem.W.find_K D.at_ er]
  cases r with
  | none => exact ⟨z, H3, I3.tok _, rz, q4 rfl⟩
  | some u0 =>
    obtain ⟨v0, rv, q⟩ := q3 u0 rfl
    exact ⟨v0, H3, I3.tok _, rv, q⟩
/-- what the table has, as data -/
def KTab (K : PySem.W.Frag) (d : Addr) (tab : List (Str × Int)) : Prop := ∀ t : Str, ∃ r, PySem.W.nsIn K d t = some r ∧ (∀ i, tab.lookup t = some i → ∃ tk, r = some (.int i tk)) ∧ (tab.lookup t = none → r = none)
def kgetV (tab : List (Str × Int)) : U → U → Option U
  | .str t, z => match tab.lookup t with
    | some i => some (.int i)
    | none => some z
  | _, _ => none
theorem eo_kget {K : PySem.W.Frag} {d : Addr} {tab : List (Str × Int)} {σ : L2.St} {B H : Hp} {ty tx : TE} {oa ob : Option U} (kt : KTab K d tab) (ha : EvO ty σ B H oa) (hb : EvO tx σ B H ob) : EvO (tKGet K d ty tx) σ B H (op2 (kgetV tab) oa ob) := fun z e B1 H1 g Q q => by
  obtain ⟨x, ex, e⟩ := bind_some e
  obtain ⟨y, ey, e⟩ := bind_some e
  refine ha x ex B1 H1 g _ fun v B2 H2 g2 r2 => hb y ey B2 H2 (g.trans g2) _ fun w B3 H3 g3 r3 => ?_
  cases r2 with
  | str t =>
    obtain ⟨r, er, h1, h2⟩ := kt t
    have e2 : (match tab.lookup t with | some i => some (U.int i) | none => some y) = some z := e
    clear e
    split at e2
    · rename_i i ei
      cases e2
      obtain ⟨tk, rfl⟩ := h1 i ei
      exact ⟨t, _, rfl, er, fun u0 e0 => by cases e0; exact ⟨.int i, ⟨tk, rfl⟩, q _ B3 H3 (g2.trans g3) (.int _)⟩, fun e0 => by cases e0⟩
    · rename_i ei
      cases e2
      exact ⟨t, r, rfl, er, (fun u0 e0 => by rw [h2 ei] at e0; cases e0), fun _ => q _ B3 H3 (g2.trans g3) r3⟩
  | _ => cases e
theorem tup1 {w0 : U} {rest : List U} (h : rest.length ≤ lim) : callO (c1 tupleV) (consO (slO (some (U.lst (w0 :: rest))) (ptO (some (U.int 1))) (some none)) (some [])) = some (U.tup rest) := by
  have e : slO (some (U.lst (w0 :: rest))) (ptO (some (U.int 1))) (some none) = some (U.lst rest) := cut1
  rw [e]
  rfl
theorem it1 {w0 : U} {rest : List U} : iterO U.iter (slO (some (U.lst (w0 :: rest))) (ptO (some (U.int 1))) (some none)) = some rest := by
  have e : slO (some (U.lst (w0 :: rest))) (ptO (some (U.int 1))) (some none) = some (U.lst rest) := cut1
  rw [e]
  rfl
end Dn
set_option Elab.async false
set_option linter.all false
set_option maxRecDepth 100000
set_option maxHeartbeats 2000000
namespace Dn
open PySem L2 PyProof.Rows HT
/-! ### t[::c] -/
section
variable {prog : Program} {w : World} {A : Around} {E : Value → Shared → Prop} {s : Shared}
theorem places_back (n : Nat) : Builtin.Slice.slicePlaces ((n : Int) - 1) (-1) (-1) = n := by
  unfold Builtin.Slice.slicePlaces
  rw [if_neg (by decide)]
  by_cases h : n = 0
  · subst h; rfl
  · rw [if_pos (by omega)]
    have e : (((n : Int) - 1 - -1 - 1) / (- -1)) = (n : Int) - 1 := by
      rw [show (- -1 : Int) = 1 by decide, Int.ediv_one]; omega
    rw [e]; omega
theorem applied_back {sl : Addr} {vl vu vs : Value} {n : Nat} {Q : Int × Int × Nat → Shared → Prop} (hs : s.heap.IsSliceOf sl vl vu vs) (pl : IsPart vl none) (pu : IsPart vu none) (ps : IsPart vs (some (-1)))
    (h : Q ((n : Int) - 1, -1, n) s) : wpAny (model prog w) A (Builtin.Slice.sliceApplied (.ref sl) (pure (n : Int))) Q E s := by
  obtain ⟨os, g1, _, g2⟩ := id hs
  unfold Builtin.Slice.sliceApplied Builtin.Slice.sliceFields
  refine wpAny_bind (wpAny_bind (wpAny_field g1 g2 (x := vl) rfl (wpAny_bind (wpAny_field g1 g2 (x := vu) rfl (wpAny_bind (wpAny_field g1 g2 (x := vs) rfl (wpAny_pure ?_)))))))
  refine wpAny_bind (slicePart_ ps ?_)
  show wpAny _ _ (if ((-1 : Int) == 0) = true then _ else _) _ _ s
  rw [if_neg (by decide)]
  refine wpAny_bind (slicePart_ pl (wpAny_bind (slicePart_ pu (wpAny_bind (wpAny_pure ?_)))))
  show wpAny _ _ (pure ((n : Int) - 1, (-1 : Int), Builtin.Slice.slicePlaces ((n : Int) - 1) (-1) (-1))) _ _ s
  rw [places_back]
  exact wpAny_pure h
theorem fm_congr {α β : Type} {f g : α → Option β} : ∀ {l : List α}, (∀ x ∈ l, f x = g x) → l.filterMap f = l.filterMap g
  | [], _ => rfl
  | x :: l, h => by
    rw [List.filterMap_cons, List.filterMap_cons, h x (List.mem_cons_self ..), fm_congr fun y hy => h y (List.mem_cons_of_mem _ hy)]
theorem pick_back (xs : List Value) : ((List.range xs.length).filterMap fun (k : Nat) => xs.toArray[(((xs.length : Nat) : Int) - 1 + (k : Int) * -1).toNat]?) = xs.reverse := by
  have key : ∀ k ∈ List.range xs.length, xs.toArray[(((xs.length : Nat) : Int) - 1 + (k : Int) * -1).toNat]? = xs.reverse[k]? := fun k hk => by
    have hk := List.mem_range.mp hk
    have e : (((xs.length : Nat) : Int) - 1 + (k : Int) * -1).toNat = xs.length - 1 - k := by omega
    rw [e, List.getElem?_toArray, List.getElem?_reverse hk]
  rw [fm_congr key]
  have key2 : ∀ ys : List Value, (List.range ys.length).filterMap (fun k => ys[k]?) = ys := fun ys => by
    induction ys with
    | nil => rfl
    | cons y ys ih =>
      rw [List.length_cons, List.range_succ_eq_map, List.filterMap_cons]
      simp only [List.getElem?_cons_zero, List.filterMap_map, Function.comp_def, List.getElem?_cons_succ]
      rw [ih]
  have := key2 xs.reverse
  rwa [List.length_reverse] at this
theorem item_tuple_back {t sl : Addr} {items : List Value} {vl vu vs : Value} {Q : Value → Shared → Prop} (ht : IsTup s.heap t items.toArray) (hs : s.heap.IsSliceOf sl vl vu vs) (pl : IsPart vl none) (pu : IsPart vu none) (ps : IsPart vs (some (-1)))
    (h : Q (.ref s.heap.objs.size) { s with heap := s.heap.push { cls := .type "tuple", data := .seq items.reverse.toArray } }) (hz : items.length ≤ sizeLine) : wpAny (model prog w) A (getItem (.ref t) (.ref sl)) Q E s := by
  obtain ⟨os, g1, g2, g3⟩ := id hs
  have ts : s.TypeIs (.ref sl) "slice" := ⟨os, g1, g2⟩
  have okz : sizeOk (.seq items.reverse.toArray) := by
    show items.reverse.toArray.size ≤ sizeLine
    rw [List.size_toArray, List.length_reverse]; exact hz
  unfold getItem
  try with_reducible refine wpAny_holding ?_
  first | refine wpAny_bind (wpAny_pure ?_) | skip
  refine wpAny_bind (wpAny_sequenceKey ht.typeIs (by decide) ?_)
  refine wpAny_bind (wpAny_callSpecial?_slot (name := Str.ofString "__getitem__") ht.typeIs PyProof.Rows.slot_tuple_getitem (wpAny_call_entry PyProof.Rows.slot_tuple_getitem ht.typeIs entry_tuple_getitem ?_ (args_tuple_getitem _ _)))
  show wpAny _ _ (Builtin.Tuple.tupleItemsOf (.ref t) >>= _) _ _ s
  refine wpAny_bind (tupleItemsOf_ ht (wpAny_bind (wpAny_typeOf ts ?_)))
  rw [if_pos (by decide)]
  refine wpAny_bind (applied_back hs pl pu ps ?_)
  have no : ¬ ((((items.toArray.size : Nat) : Int) - 1 == 0 && (-1 : Int) == 1 && items.toArray.size == items.toArray.size) = true) := by
    intro z
    rw [Bool.and_eq_true, Bool.and_eq_true] at z
    exact absurd z.1.2 (by decide)
  show wpAny _ _ (if (((items.toArray.size : Nat) : Int) - 1 == 0 && (-1 : Int) == 1 && items.toArray.size == items.toArray.size) = true then _ else _) _ _ s
  rw [if_neg no]
  have e : ((List.range items.toArray.size).filterMap fun (k : Nat) => items.toArray[(((items.toArray.size : Nat) : Int) - 1 + (k : Int) * -1).toNat]?).toArray = items.reverse.toArray := by
    rw [List.size_toArray, pick_back]
  rw [e]
  first
    | exact wpAny_bind (m := Builtin.Tuple.tupleExact _) (wpAny_newObj_type (wpAny_pure ⟨_, rfl, wpAny_pure h⟩) okz)
    | exact wpAny_bind (m := Builtin.Tuple.tupleExact _) (wpAny_newObj_type (wpAny_bind (wpAny_pure (wpAny_pure ⟨_, rfl, wpAny_pure h⟩))) okz)
    | exact wpAny_bind (wpAny_bind (m := Builtin.Tuple.tupleExact _) (wpAny_newObj_type (wpAny_pure (wpAny_pure ⟨_, rfl, wpAny_pure h⟩)) okz))
    | exact wpAny_bind (wpAny_bind (m := Builtin.Tuple.tupleExact _) (wpAny_newObj_type (wpAny_pure ⟨_, rfl, wpAny_pure h⟩) okz))
end
theorem pick_one (its : List Value) : slicePick its.toArray none none (some 1) = its.toArray := by
  have e : slicePick its.toArray none none (some 1) = slicePick its.toArray none none none := rfl
  rw [e, slicePick_cut]
  simp [HT.sIx]
def rStep (K : PySem.W.Frag) : V → Int → Hp → VK → Prop := fun x c H Q => ∃ a xs, x = .ref a ∧ ((c = 1 ∧ SqL K H a xs ∧ ∀ p, H p = none → Q (.ref p) (upd H p (.lst xs))) ∨ (c = -1 ∧ SqL K H a xs ∧ ∀ p, H p = none → Q (.ref p) (upd H p (.lst xs.reverse))) ∨
  (c = -1 ∧ SqT K H a xs ∧ ∀ p, H p = none → Q (.ref p) (upd H p (.tup xs.reverse))))
def tStep (K : PySem.W.Frag) (te ts : TE) : TE := fun σ H Q => te σ H fun x H1 => tPart ts σ H1 fun o H2 => ∃ c, o = some c ∧ rStep K x c H2 Q
section
variable {X : Cx}
theorem pe_step {e st : Expr} {te ts : TE} {p3 pos : Pos} (he : PE X e te) (hst : PE X st ts) : PE X (.Subscript e (.Slice none none (some st) p3) pos) (tStep X.K te ts) := by
  refine ⟨fun pins s σ H Q I h => ?_⟩
  refine Subscript_ (thn (he.run pins s σ H _ I h) fun v s1 ⟨x, H1, I1, r1, q1⟩ => ?_)
  refine wpAny_Slice (thn (po_none.run pins s1 σ H1 (fun o H2 => o = none ∧ H2 = H1) I1 ⟨rfl, rfl⟩) fun vl s2 ⟨l, H2, I2, pl, el, e2⟩ => ?_)
  subst el e2
  refine thn (po_none.run pins s2 σ H2 (fun o H3 => o = none ∧ H3 = H2) I2 ⟨rfl, rfl⟩) fun vu s3 ⟨u, H3, I3, pu, eu, e3⟩ => ?_
  subst eu e3
  refine thn ((po_some hst).run pins s3 σ H3 (fun o H4 => ∃ c, o = some c ∧ rStep X.K x c H4 Q) I3 q1) fun vs s4 ⟨o, H4, I4, ps, c, eo, a, xs, ex, q⟩ => ?_
  subst eo ex
  cases r1
  have I5 : Inv X pins σ H4 { s4 with heap := s4.heap.push { cls := .type "slice", data := .fields #[vl, vu, vs] } } := I4.kept (t' := s4.toks) fun b ob q => Heap.get?_push_of_some _ q
  show wpAny (model X.prog X.w) X.A (subscriptTail e (.Slice none none (some st) p3) (.ref a) (.ref s4.heap.objs.size)) (EP X pins σ Q) X.xe { s4 with heap := s4.heap.push { cls := .type "slice", data := .fields #[vl, vu, vs] } }
  rcases q with ⟨rfl, hx, q⟩ | ⟨rfl, hx, q⟩ | ⟨rfl, hx, q⟩
  · obtain ⟨its, r, ht, hz⟩ := I5.list hx
    have hlen := r.length
    refine tail_any (ops := [.ref a, .ref s4.heap.objs.size]) ht.isList.typeIs (PySem.slot_list_getitem.lookup) ?_ (by with_unfolding_all rfl)
    refine wpAny_getItem_list_slice ht.isList (Heap.IsSliceOf.new _ vl vu vs) pl pu ps (by decide) ?_ (by rw [List.size_toArray]; omega)
    rw [pick_one]
    refine ⟨.ref _, _, I5.laid (t' := s4.toks) (o := .lst xs) (fun b ob q => Heap.get?_push_of_some _ q) (Nat.le_refl _) ?_, rfl, q _ (I5.hok.fresh (Nat.le_refl _))⟩
    exact ⟨hz, _, 0, r, Heap.get?_push_size _ rfl⟩
  · obtain ⟨its, r, ht, hz⟩ := I5.list hx
    have hlen := r.length
    refine tail_any (ops := [.ref a, .ref s4.heap.objs.size]) ht.isList.typeIs (PySem.slot_list_getitem.lookup) ?_ (by with_unfolding_all rfl)
    refine wpAny_getItem_list_slice ht.isList (Heap.IsSliceOf.new _ vl vu vs) pl pu ps (by decide) ?_ (by rw [List.size_toArray]; omega)
    rw [PySem.W.krv_pick]
    refine ⟨.ref _, _, I5.laid (t' := s4.toks) (o := .lst xs.reverse) (fun b ob q => Heap.get?_push_of_some _ q) (Nat.le_refl _) ?_, rfl, q _ (I5.hok.fresh (Nat.le_refl _))⟩
    exact ⟨by rw [List.length_reverse]; exact hz, _, 0, r.reverse, Heap.get?_push_size _ rfl⟩
  · obtain ⟨its, r, ht, hz⟩ := I5.tuple hx
    have hlen := r.length
    refine tail_any (ops := [.ref a, .ref s4.heap.objs.size]) ht.typeIs (PyProof.Rows.slot_tuple_getitem.lookup) ?_ (by with_unfolding_all rfl)
    refine item_tuple_back ht (Heap.IsSliceOf.new _ vl vu vs) pl pu ps ?_ (by omega)
    refine ⟨.ref _, _, I5.laid (t' := s4.toks) (o := .tup xs.reverse) (fun b ob q => Heap.get?_push_of_some _ q) (Nat.le_refl _) ?_, rfl, q _ (I5.hok.fresh (Nat.le_refl _))⟩
    exact ⟨by rw [List.length_reverse]; exact hz, _, r.reverse, IsTup.new _ _⟩
theorem pe_stepK {K : PySem.W.Frag} {e st : Expr} {te ts : TE} {p3 pos : Pos} (hK : X.K = K) (he : PE X e te) (hst : PE X st ts) : PE X (.Subscript e (.Slice none none (some st) p3) pos) (tStep K te ts) := hK ▸ pe_step he hst
end
variable [CTab]
def stepV : U → U → Option U
  | .lst xs, .int c => if c = 1 then some (.lst xs) else if c = -1 then some (.lst xs.reverse) else none
  | .frl xs, .int c => if c = 1 then some (.lst xs) else if c = -1 then some (.lst xs.reverse) else none
  | .tup xs, .int c => if c = -1 then some (.tup xs.reverse) else none
  | _, _ => none
theorem Rps.rev {B : Hp} : ∀ {xs : List U} {vs : List V}, Rps B xs vs → Rps B xs.reverse vs.reverse
  | _, _, .nil => .nil
  | _, _, .cons h t => by
    rw [List.reverse_cons, List.reverse_cons]
    exact (Rps.rev t).append (.one h)
theorem rp_step {K : PySem.W.Frag} {B H : Hp} {x z : U} {v : V} {c : Int} {Q : VK} (e : stepV x (.int c) = some z) (s : Same B H) (r : Rp B x v) (q : ∀ v2 B2 H2, Go B H B2 H2 → Rp B2 z v2 → Q v2 H2) : rStep K v c H Q := by
  cases r with
  | @lst a xs vs h r =>
    have e : (if c = 1 then some (U.lst xs) else if c = -1 then some (.lst xs.reverse) else none) = some z := e
    refine ⟨a, vs, rfl, ?_⟩
    split at e
    · rename_i hc
      cases e
      exact .inl ⟨hc, SqL.of (s _ _ h), fun p hp => q _ _ _ (Go.new s hp) (.lst upd_same (r.new s hp))⟩
    · split at e
      · rename_i hc
        cases e
        exact .inr (.inl ⟨hc, SqL.of (s _ _ h), fun p hp => q _ _ _ (Go.new s hp) (.lst upd_same (r.rev.new s hp))⟩)
      · cases e
  | @frl a xs vs o h r =>
    have e : (if c = 1 then some (U.lst xs) else if c = -1 then some (.lst xs.reverse) else none) = some z := e
    refine ⟨a, vs, rfl, ?_⟩
    split at e
    · rename_i hc
      cases e
      exact .inl ⟨hc, .inl (.inr ⟨o, s _ _ h⟩), fun p hp => q _ _ _ (Go.new s hp) (.lst upd_same (r.new s hp))⟩
    · split at e
      · rename_i hc
        cases e
        exact .inr (.inl ⟨hc, .inl (.inr ⟨o, s _ _ h⟩), fun p hp => q _ _ _ (Go.new s hp) (.lst upd_same (r.rev.new s hp))⟩)
      · cases e
  | @tup a xs vs h r =>
    have e : (if c = -1 then some (U.tup xs.reverse) else none) = some z := e
    refine ⟨a, vs, rfl, ?_⟩
    split at e
    · rename_i hc
      cases e
      exact .inr (.inr ⟨hc, SqT.of (s _ _ h), fun p hp => q _ _ _ (Go.new s hp) (.tup upd_same (r.rev.new s hp))⟩)
    · cases e
  | _ => cases e
section
variable {σ : L2.St} {B H : Hp} {te ts : TE} {oa ob : Option U} {K : PySem.W.Frag} {M : Addr → Prop} {ps : List Addr} {F G : SM U}
theorem step_int {x y z : U} (e : stepV x y = some z) : ∃ c, y = .int c := by
  cases x <;> cases y <;> first | exact ⟨_, rfl⟩ | cases e
theorem eo_step (ha : EvO te σ B H oa) (hb : EvO ts σ B H ob) : EvO (tStep K te ts) σ B H (op2 stepV oa ob) := fun z e B1 H1 g Q q => by
  obtain ⟨x, ex, e⟩ := bind_some e
  obtain ⟨y, ey, e⟩ := bind_some e
  obtain ⟨c, rfl⟩ := step_int e
  refine ha x ex B1 H1 g _ fun v B2 H2 g2 r2 => hb _ ey B2 H2 (g.trans g2) _ fun w B3 H3 g3 r3 => ?_
  cases r3
  exact ⟨c, rfl, c, rfl, rp_step e g3.bh (r2.up g3) fun v2 B4 H4 g4 r4 => q v2 B4 H4 ((g2.trans g3).trans g4) r4⟩
theorem es_step (ha : EvS M ps σ B te F) (hb : EvS M ps σ B ts G) : EvS M ps σ B (tStep K te ts) (opS stepV F G) := fun us z us' e B1 H1 g w Q q => by
  obtain ⟨x, us1, ex, e⟩ := bindS_some e
  obtain ⟨y, us2, ey, e⟩ := bindS_some e
  obtain ⟨ee, rfl⟩ := pureS_some e; clear e
  obtain ⟨c, rfl⟩ := step_int ee
  refine ha _ _ _ ex B1 H1 g w _ fun v B2 H2 g2 r2 w2 => hb _ _ _ ey B2 H2 (g.trs g2) w2 _ fun v' B3 H3 g3 r3 w3 => ?_
  cases r3
  exact ⟨c, rfl, c, rfl, rp_step ee g3.bh (r2.upA g3.at) fun v2 B4 H4 g4 r4 => q v2 B4 H4 ((g2.trans g3).trans (.of g4)) r4 (w3.go g4)⟩
end
/-! ### what keeps a list of one's own a list -/
def LkA {α : Type} (j : Nat) (F : SM α) : Prop := ∀ us y us', F us = some (y, us') → ∀ xs, us'[j]? = some (.frl xs) → ∃ ys, us[j]? = some (.frl ys)
section
variable {j k : Nat}
theorem lk_bind {α β : Type} {F : SM α} {G : α → SM β} (h : LkA j F) (h2 : ∀ x, LkA j (G x)) : LkA j (bindS F G) := fun us y us' e xs ex => by
  obtain ⟨x, us1, e1, e2⟩ := bindS_some e
  obtain ⟨ys, ey⟩ := h2 x _ _ _ e2 xs ex
  exact h _ _ _ e1 ys ey
theorem lk_pure {α : Type} {o : Option α} : LkA j (pureS o) := fun us y us' e xs ex => by
  obtain ⟨_, rfl⟩ := pureS_some e
  exact ⟨xs, ex⟩
theorem lk_lockO {o : U → Option U} : LkA j (lockO k o) := fun us y us' e xs ex => by
  obtain ⟨u, _, e⟩ := bind_some e
  split at e
  · obtain ⟨z, _, e⟩ := bind_some e
    split at e
    · cases e; exact ⟨xs, ex⟩
    · cases e
  · cases e
theorem lk_lockT {o : U → Option Bool} : LkA j (lockT k o) := fun us y us' e xs ex => by
  obtain ⟨u, _, e⟩ := bind_some e
  split at e
  · obtain ⟨z, _, e⟩ := map_some e
    cases e; exact ⟨xs, ex⟩
  · cases e
theorem lk_set {us : List U} {u : U} {xs : List U} (h : k ≠ j) (ex : (us.set k u)[j]? = some (.frl xs)) : ∃ ys, us[j]? = some (.frl ys) := by
  rw [List.getElem?_set_ne h] at ex; exact ⟨xs, ex⟩
theorem lk_callM {m : U → List U → Option (U × U)} {xs : List U} (h : k ≠ j) : LkA j (callM k m xs) := fun us y us' e xs ex => by
  obtain ⟨u, _, e⟩ := bind_some e
  split at e
  · obtain ⟨z, _, e⟩ := map_some e
    cases e; exact lk_set h ex
  · cases e
theorem lk_pop {y : U} : LkA j (popS k y) := fun us z us' e xs ex => by
  unfold popS at e
  split at e
  · rename_i ys i eu
    split at e
    · obtain ⟨n, _, e⟩ := bind_some e
      obtain ⟨q, _, e⟩ := map_some e
      cases e
      by_cases h : k = j
      · subst h; exact ⟨_, eu⟩
      · exact lk_set h ex
    · cases e
  · cases e
theorem lk_app {y : U} : LkA j (appS k y) := fun us z us' e xs ex => by
  unfold appS at e
  split at e
  · rename_i ys eu
    split at e
    · cases e
      by_cases h : k = j
      · subst h; exact ⟨_, eu⟩
      · exact lk_set h ex
    · cases e
  · cases e
theorem lk_lockS {F : U → SM U} (h : ∀ u, LkA j (F u)) : LkA j (lockS k F) := fun us z us' e xs ex => by
  obtain ⟨u, eu, e⟩ := bind_some e
  split at e
  · obtain ⟨⟨r1, r2⟩, er, e⟩ := bind_some e
    split at e
    · cases e
      by_cases hk : k = j
      · subst hk
        have hl : k < r2.length := by
          rcases Nat.lt_or_ge k r2.length with q | q
          · exact q
          · rw [List.getElem?_eq_none (by simpa using q)] at ex; cases ex
        rw [List.getElem?_set_self hl] at ex
        cases ex
        exact ⟨_, eu⟩
      · rw [List.getElem?_set_ne hk] at ex
        obtain ⟨ys, ey⟩ := h u _ _ _ er xs ex
        rw [List.getElem?_set_ne hk] at ey
        exact ⟨ys, ey⟩
    · cases e
  · cases e
theorem lk_take : LkA j (takeS k) := fun us z us' e xs ex => by
  unfold takeS at e
  split at e
  · rename_i ys eu
    cases e
    by_cases h : k = j
    · subst h; exact ⟨_, eu⟩
    · exact lk_set h ex
  · cases e
end
end Dn
set_option Elab.async false
set_option linter.all false
set_option maxRecDepth 100000
set_option maxHeartbeats 2000000
namespace Dn
open PySem L2
variable [CTab]
section
variable {α : Type} {R : α × List U} {β : Bs} {σ : L2.St} {B H : Hp} {ps : List Addr} {us : List U} {K : PySem.W.Frag} {ta tb : TE} {tz : TS} {D : Ends} {F G : SM U} {i j : Nat}
/-- a, b = .. by a tuple that nobody keeps -/
theorem two_cells {v w : V} {ps2 : List Addr} {us1 : List U} {Q : L2.St → Hp → Prop} (W : Wh β B H ps2 us1) (k : ∀ H1, Wh β B H1 ps2 us1 → Q ((σ.set i (some v)).set j (some w)) H1) :
    [v, w].length ≤ sizeLine ∧ ∀ p, H p = none → gTup K 2 (gCons (gName i) (gCons (gName j) gNil)) (.ref p) σ (upd H p (.tup [v, w])) Q :=
  ⟨by show 2 ≤ sizeLine; decide, fun p hp => ⟨p, _, rfl, SqT.of upd_same, rfl, _, _, rfl, _, _, rfl, rfl, k _ (W.go (Go.own W.s hp))⟩⟩
theorem q_tupNN {f : SM α} (W : Wh β B H ps us) (ha : EvN β.M ps σ B ta F) (hb : EvN β.M ps σ B tb G) (e : bindS F (fun x => bindS G fun y => addS x (addS y f)) us = some R)
    (k : ∀ p q B1 H1 us1, Wh β B1 H1 (ps ++ [p, q]) us1 → Same B B1 → f us1 = some R → tz D ((σ.set i (some (.ref p))).set j (some (.ref q))) H1) : tSeq (tAsg (tTup (tCons ta (tCons tb tNil))) (gTup K 2 (gCons (gName i) (gCons (gName j) gNil)))) tz D σ H := by
  obtain ⟨x, us1, ex, e⟩ := bindS_some e
  obtain ⟨y, us2, ey, e⟩ := bindS_some e
  refine ha _ _ _ ex B H W.at W.w _ fun p B2 H2 g2 n2 b2 o2 w2 => hb _ _ _ ey B2 H2 (W.at.trs g2) w2 _ fun q B3 H3 g3 n3 b3 o3 w3 => ?_
  obtain ⟨ob, eb⟩ := o2.ex
  have hnp : p ∉ ps := W.w.fresh n2
  have hpq : q ≠ p := fun z => by rw [z, eb] at n3; cases n3
  have o2' : OwnAt B3 H3 p x := o2.up (fun o e => g3.h p o e hnp) g3.b
  have W1 := W.new (u := x) (g2.trans g3) w3 n2 (g3.noB b2 eb hnp) o2'
  have hq : q ∉ ps ++ [p] := fun z => by
    rcases List.mem_append.mp z with z | z
    · exact w2.fresh n3 z
    · simp at z; exact hpq z
  have W2 : Wh β B3 H3 ((ps ++ [p]) ++ [q]) ((us2 ++ [x]) ++ [y]) := ⟨W1.g, W1.w.add hq ⟨.inr (W.g.n q (g2.n q n3)), o3.ex, .inr ⟨b3, o3⟩⟩, fun r hr => by
    have := W1.hd r hr
    cases ps with
    | nil => simpa using this
    | cons a t => simpa using this⟩
  rw [List.append_assoc] at W2
  exact two_cells W2 fun H4 W4 => k p q B3 H4 _ W4 (g2.b.trans g3.b) e
theorem q_tupNV {f : U → SM α} (W : Wh β B H ps us) (ha : EvN β.M ps σ B ta F) (hb : EvS β.M ps σ B tb G) (e : bindS F (fun x => bindS G fun y => addS x (f y)) us = some R)
    (k : ∀ p y w B1 H1 us1, Rp B1 y w → Wh β B1 H1 (ps ++ [p]) us1 → Same B B1 → f y us1 = some R → tz D ((σ.set i (some (.ref p))).set j (some w)) H1) : tSeq (tAsg (tTup (tCons ta (tCons tb tNil))) (gTup K 2 (gCons (gName i) (gCons (gName j) gNil)))) tz D σ H := by
  obtain ⟨x, us1, ex, e⟩ := bindS_some e
  obtain ⟨y, us2, ey, e⟩ := bindS_some e
  refine ha _ _ _ ex B H W.at W.w _ fun p B2 H2 g2 n2 b2 o2 w2 => hb _ _ _ ey B2 H2 (W.at.trs g2) w2 _ fun v B3 H3 g3 r3 w3 => ?_
  obtain ⟨ob, eb⟩ := o2.ex
  have hnp : p ∉ ps := W.w.fresh n2
  have o2' : OwnAt B3 H3 p x := o2.up (fun o e => g3.h p o e hnp) g3.b
  exact two_cells (W.new (u := x) (g2.trans g3) w3 n2 (g3.noB b2 eb hnp) o2') fun H4 W4 => k p y v B3 H4 _ r3 W4 (g2.b.trans g3.b) e
theorem q_tupVN {f : U → SM α} (W : Wh β B H ps us) (ha : EvS β.M ps σ B ta F) (hb : EvN β.M ps σ B tb G) (e : bindS F (fun y => bindS G fun x => addS x (f y)) us = some R)
    (k : ∀ p y w B1 H1 us1, Rp B1 y w → Wh β B1 H1 (ps ++ [p]) us1 → Same B B1 → f y us1 = some R → tz D ((σ.set i (some w)).set j (some (.ref p))) H1) : tSeq (tAsg (tTup (tCons ta (tCons tb tNil))) (gTup K 2 (gCons (gName i) (gCons (gName j) gNil)))) tz D σ H := by
  obtain ⟨x, us1, ex, e⟩ := bindS_some e
  obtain ⟨y, us2, ey, e⟩ := bindS_some e
  refine ha _ _ _ ex B H W.at W.w _ fun v B2 H2 g2 r2 w2 => hb _ _ _ ey B2 H2 (W.at.trs g2) w2 _ fun p B3 H3 g3 n3 b3 o3 w3 => ?_
  exact two_cells (W.new (u := y) (g2.trans g3) w3 (g2.n p n3) b3 o3) fun H4 W4 => k p x v B3 H4 _ (r2.upA g3.at) W4 (g2.b.trans g3.b) e
end
/-! ### a dict display with one pair, one's own -/
section
variable {M : Addr → Prop} {ps : List Addr} {σ : L2.St} {B H : Hp} {F G : SM U} {tk tv : TE}
def disp1S (F G : SM U) : SM U := bindS F fun x => bindS G fun y => pureS (x.key.map fun k => U.dic [(k, y)])
theorem en_disp1 (ha : EvS M ps σ B tk F) (hb : EvS M ps σ B tv G) : EvN M ps σ B (tDisp [(tk, tv)]) (disp1S F G) := fun us z us' e B1 H1 g w Q q => by
  obtain ⟨x, us1, ex, e⟩ := bindS_some e
  obtain ⟨y, us2, ey, e⟩ := bindS_some e
  obtain ⟨ee, rfl⟩ := pureS_some e; clear e
  obtain ⟨k, ek, ee⟩ := map_some ee
  subst ee
  intro p hp
  have g0 : Go B1 H1 B1 (upd H1 p (.dK [])) := Go.own g.bh hp
  have hnp : p ∉ ps := w.fresh hp
  refine ha _ _ _ ex B1 _ (g.trans g0) (w.go g0) _ fun v B2 H2 g2 r2 w2 => hb _ _ _ ey B2 H2 ((g.trans g0).trs g2) w2 _ fun v' B3 H3 g3 r3 w3 => ?_
  have e2 : H2 p = some (.dK []) := g2.h _ _ upd_same hnp
  have e3 : H3 p = some (.dK []) := g3.h _ _ e2 hnp
  have b1 : B1 p = none := g.bh.free hp
  have b3 : B3 p = none := g3.noB (g2.noB b1 upd_same hnp) e2 hnp
  refine ⟨e3, [(k, v')], ?_, (by show 1 ≤ 15; decide), ?_⟩
  · rw [r2.key ek]; rfl
  · have g13 : Gs (inP ps) B1 H1 B3 H3 := ((Gs.of g0).trans g2).trans g3
    have g4 : Gs (inP ps) B1 H1 B3 (upd H3 p (.dK (mergeK [] [(k, v')]))) := ⟨fun a o e hm => by
        have hap : a ≠ p := ne_of_none e hp
        rw [upd_ne hap]; exact g13.h a o e hm, fun a e => by
        by_cases hap : a = p
        · subst hap; exact hp
        · rw [upd_ne hap] at e; exact g13.n a e, g13.b, same_upd g13.bh b3, g13.fr⟩
    refine q p B3 _ g4 hp b3 ⟨_, upd_same, .cons r3 .nil⟩ ?_
    exact w3.keep (fun a ha o e => by rw [upd_ne (mem_ne ha hnp)]; exact e) (Same.refl _) (fun a _ hb => hb)
end
/-! ### a new object made while another one is looked at -/
def lockN (j : Nat) (F : U → SM U) : SM U := fun us => us[j]?.bind fun u => if u.own = true then (F u (us.set j .non)).bind fun r => if r.1.plc = true ∧ r.2.all U.plc = true then some (r.1, r.2.set j u) else none else none
section
variable {M : Addr → Prop} {ps : List Addr} {σ : L2.St} {B H : Hp} {te : TE} {j : Nat} {p : Addr}
theorem en_lockN {F : U → SM U} (hp : ps[j]? = some p) (h : ∀ u B', Same B B' → Rp B' u (.ref p) → EvN M ps σ B' te (F u)) : EvN M ps σ B (tLockE te) (lockN j F) := fun us z us' e B1 H1 g w Q q => by
  obtain ⟨u, eu, e⟩ := bind_some e
  split at e
  · rename_i ho
    obtain ⟨⟨z1, us2⟩, ez, e⟩ := bind_some e
    split at e
    · rename_i hz
      cases e
      have wp := w.at_ j p u hp eu
      obtain ⟨hb, ow⟩ := wp.own ho
      obtain ⟨o1, e1, mu, hl⟩ := ow.lock
      refine ⟨p, o1, e1, mu, fun od => ?_⟩
      have r1 : Rp (upd B1 p (.frz od o1)) u (.ref p) := (hl od).resolve_right (fun z => z hb)
      have s1 : Same (upd B1 p (.frz od o1)) (upd H1 p (.frz od o1)) := fun b x hx => by
        by_cases hbp : b = p
        · subst hbp; rw [upd_same] at hx ⊢; exact hx
        · rw [upd_ne hbp] at hx ⊢; exact g.bh b x hx
      have w1 : Ows M (upd B1 p (.frz od o1)) (upd H1 p (.frz od o1)) ps (us.set j .non) :=
        w.set hp (fun q _ hq o e => by rw [upd_ne hq]; exact e) (same_lock hb) (fun q _ hq hn => by rw [upd_ne hq]; exact hn) ⟨wp.m, ⟨_, upd_same⟩, .inl rfl⟩
      refine h u _ (g.b.trans (same_lock hb)) r1 _ _ _ ez _ _ (At.refl s1) w1 _ fun q0 B2 H2 g2 n2 b2 o2 w2 => ?_
      have eB : B2 p = some (.frz od o1) := g2.b _ _ upd_same
      have eH : H2 p = some (.frz od o1) := g2.bh _ _ eB
      have er : ∀ a o, B2 a = some o → a ≠ p → eraseB B2 p a = some o := fun a x hx ha => by rw [erase_ne ha]; exact hx
      have sB : Same B1 (eraseB B2 p) := fun a x hx => by
        have ha : a ≠ p := ne_of_none hx hb
        rw [erase_ne ha]; exact g2.b a x (by rw [upd_ne ha]; exact hx)
      have gg : Gs (inP ps) B1 H1 (eraseB B2 p) (upd H2 p o1) := by
        refine ⟨fun a x hx hm => ?_, fun a hx => ?_, sB, fun a x hx => ?_, fun a x hx => ?_⟩
        · have ha : a ≠ p := fun z => hm (by rw [z]; exact List.mem_of_getElem? hp)
          rw [upd_ne ha]; exact g2.h a x (by rw [upd_ne ha]; exact hx) hm
        · by_cases ha : a = p
          · subst ha; rw [upd_same] at hx; cases hx
          · rw [upd_ne ha] at hx
            have := g2.n a hx
            rwa [upd_ne ha] at this
        · by_cases ha : a = p
          · subst ha; rw [erase_same] at hx; cases hx
          · rw [erase_ne ha] at hx; rw [upd_ne ha]; exact g2.bh a x hx
        · by_cases ha : a = p
          · subst ha; rw [erase_same] at hx; cases hx
          · rw [erase_ne ha] at hx
            rcases g2.fr a x hx with z | z | z
            · rw [upd_ne ha] at z; exact .inl z
            · rw [upd_ne ha] at z; exact .inr (.inl z)
            · exact .inr (.inr z)
      have hj : j < us2.length := by rw [w2.len]; exact (List.getElem?_eq_some_iff.mp hp).1
      have wf : Ows M (eraseB B2 p) (upd H2 p o1) ps (us2.set j u) := by
        refine ⟨by rw [List.length_set, w2.len], w2.nd, fun i q v hq hv => ?_⟩
        by_cases hij : i = j
        · subst hij
          rw [hp] at hq; cases hq
          rw [List.getElem?_set_self hj] at hv; cases hv
          exact ⟨wp.m, ⟨_, upd_same⟩, .inr ⟨erase_same, ow.up (fun o e => by rw [upd_same, ← e1]; exact e) sB⟩⟩
        · rw [List.getElem?_set_ne (Ne.symm hij)] at hv
          have hne : q ≠ p := fun z => hij (w2.nd i j q hq (by rw [z]; exact hp))
          obtain ⟨q1, ⟨o, q2⟩, q3⟩ := w2.at_ i q v hq hv
          refine ⟨q1, ⟨o, by rw [upd_ne hne]; exact q2⟩, ?_⟩
          rcases q3 with q3 | ⟨q3, q4⟩
          · exact .inl q3
          · refine .inr ⟨by rw [erase_ne hne]; exact q3, q4.erase eB er (upd_ne hne) ?_⟩
            exact List.all_eq_true.mp hz.2 v (List.mem_of_getElem? hv)
      have hq0 : q0 ≠ p := fun z => by rw [z, upd_same] at n2; cases n2
      rw [upd_ne hq0] at n2
      exact ⟨eH, q q0 _ _ gg n2 (by rw [erase_ne hq0]; exact b2) (o2.erase eB er (upd_ne hq0) hz.1) wf⟩
    · cases e
  · cases e
end
theorem ps_lockA {X : Cx} {st : Stmt} {te : TE} {i : Nat} (h : PS X st (tAsg te (gName i))) : PS X st (tAsg (tLockE te) (gName i)) := ps_lock h
/-! ### what is never asked -/
def tNeverE : TE := fun _ _ _ => False
theorem pe_never {X : Cx} {e : Expr} : PE X e tNeverE := ⟨fun _ _ _ _ _ _ h => h.elim⟩
theorem eo_never {σ : L2.St} {B H : Hp} : EvO tNeverE σ B H none := fun _ e => nomatch e
end Dn
set_option Elab.async false
set_option linter.all false
set_option maxRecDepth 100000
set_option maxHeartbeats 2000000
namespace Dn
open PySem L2 PySem.Spec PyProof.Rows
section
variable [CTab]
/-! ### max, min of a list -/
def rMaxA (K : PySem.W.Frag) : List V → Hp → VK → Prop := fun xs H Q => rMax K xs H Q ∨ ∃ i j, xs = [V.int i, .int j] ∧ Q (.int (if j > i then j else i)) H
theorem call_maxK {X : Cx} {K : PySem.W.Frag} (hK : X.K = K) (hc : X.calm = true) : CallR X (.builtin "max") (rMaxA K) := hK ▸ CallR.or (cr_max hc) (call_max2 hc)
def maxL : List Int → Option Int
  | [] => none
  | n :: r => some (r.foldl max n)
def maxA : List U → Option U
  | [.lst xs] => ((intsU xs).bind maxL).map U.int
  | xs => maxU xs
theorem maxL_mem : ∀ {ns : List Int} {m : Int}, maxL ns = some m → m ∈ ns ∧ ∀ y ∈ ns, y ≤ m := by
  have key : ∀ (r : List Int) (n : Int), (r.foldl max n = n ∨ r.foldl max n ∈ r) ∧ n ≤ r.foldl max n ∧ ∀ y ∈ r, y ≤ r.foldl max n := by
    intro r
    induction r with
    | nil => intro n; exact ⟨.inl rfl, Int.le_refl _, fun y h => by cases h⟩
    | cons a r ih =>
      intro n
      obtain ⟨h1, h2, h3⟩ := ih (max n a)
      rw [List.foldl_cons]
      refine ⟨?_, by omega, fun y hy => ?_⟩
      · rcases h1 with h1 | h1
        · rcases Int.le_total n a with q | q
          · rw [h1, Int.max_eq_right q]; exact .inr (List.mem_cons_self ..)
          · rw [h1, Int.max_eq_left q]; exact .inl rfl
        · exact .inr (List.mem_cons_of_mem _ h1)
      · rcases List.mem_cons.mp hy with rfl | hy
        · omega
        · exact h3 y hy
  intro ns m h
  cases ns with
  | nil => cases h
  | cons n r =>
    cases h
    obtain ⟨h1, h2, h3⟩ := key r n
    refine ⟨?_, fun y hy => ?_⟩
    · rcases h1 with h1 | h1
      · rw [h1]; exact List.mem_cons_self ..
      · exact List.mem_cons_of_mem _ h1
    · rcases List.mem_cons.mp hy with rfl | hy
      · exact h2
      · exact h3 y hy
theorem rc_maxA {K : PySem.W.Frag} : RC (rMaxA K) maxA := fun xs z e vs B H s rs Q q => by
  unfold maxA at e
  split at e
  · rename_i l
    obtain ⟨m, em, e⟩ := map_some e
    subst e
    obtain ⟨ns, en, em⟩ := bind_some em
    obtain ⟨h1, h2⟩ := maxL_mem em
    cases rs with
    | cons r1 t =>
      cases t
      cases r1 with
      | @lst a _ ws h r =>
        refine .inl ⟨a, ns, rfl, by rw [← r.intsOf en]; exact SqL.of (s _ _ h), List.length_pos_of_mem h1, fun m' h3 h4 => ?_⟩
        have : m' = m := Int.le_antisymm (h2 _ h3) (h4 _ h1)
        subst this
        exact q _ B H (Go.refl s) (.int _)
  · exact .inr (rc_max _ _ e _ _ _ s rs Q q)
/-! ### repr -/
mutual
def U.py : U → Option PyData
  | .non => some .none
  | .bl b => some (.bool b)
  | .int i => some (.int i)
  | .str z => some (.str z)
  | .tup xs => (U.pys xs).map PyData.tuple
  | .lst xs => (U.pys xs).map PyData.list
  | _ => none
def U.pys : List U → Option (List PyData)
  | [] => some []
  | x :: xs => (U.py x).bind fun d => (U.pys xs).map fun r => d :: r
end
section
variable {K : PySem.W.Frag} {H : Hp}
mutual
theorem Rp.dp : ∀ {x : U} {v : V} {d : PyData}, Rp H x v → x.py = some d → Dp K H v d
  | _, _, _, .non, e => by cases e; exact .non
  | _, _, _, .bl b, e => by cases e; exact .bl b
  | _, _, _, .int b, e => by cases e; exact .int b
  | _, _, _, .str b, e => by cases e; exact .str b
  | _, _, _, @Rp.tup _ _ a xs vs h r, e => by
    obtain ⟨ds, e1, e⟩ := map_some (show (U.pys xs).map PyData.tuple = _ by simpa [U.py] using e)
    subst e
    exact .tup (SqT.of h) (Rps.dp r e1)
  | _, _, _, @Rp.lst _ _ a xs vs h r, e => by
    obtain ⟨ds, e1, e⟩ := map_some (show (U.pys xs).map PyData.list = _ by simpa [U.py] using e)
    subst e
    exact .lst (SqL.of h) (Rps.dp r e1)
  | _, _, _, .frl _ _, e => by simp [U.py] at e
  | _, _, _, .dic _ _, e => by simp [U.py] at e
  | _, _, _, .dit _ _, e => by simp [U.py] at e
  | _, _, _, .obj _ _ _, e => by simp [U.py] at e
theorem Rps.dp : ∀ {xs : List U} {vs : List V} {ds : List PyData}, Rps H xs vs → U.pys xs = some ds → DpAll K H vs ds
  | _, _, _, .nil, e => by simp [U.pys] at e; subst e; exact .nil
  | _, _, _, @Rps.cons _ _ x v xs vs h r, e => by
    obtain ⟨d, e1, e⟩ := bind_some (show (U.py x).bind (fun d => (U.pys xs).map fun r => d :: r) = _ by simpa [U.pys] using e)
    obtain ⟨ds, e2, e⟩ := map_some e
    subst e
    exact .cons (Rp.dp h e1) (Rps.dp r e2)
end
end
def rRepr (K : PySem.W.Frag) : List V → Hp → VK → Prop := fun xs H Q => ∃ v d, xs = [v] ∧ Dp K H v d ∧ d.showable = true ∧ d.hasDict = false ∧ d.depth ≤ 40 ∧ d.shown.length ≤ sizeLine ∧ Q (.str d.shown) H
theorem call_repr {X : Cx} (hg : X.A.guards = some []) (hu : X.A.units + 64 < cLine) : CallR X (.builtin "repr") (rRepr X.K) := by
  intro pins s σ H xs us Q I rx h
  obtain ⟨v, d, rfl, hd, h1, h2, h3, h4, q⟩ := h
  obtain ⟨u, rfl, ru⟩ := vals1 rx
  obtain ⟨as, rd⟩ := Dp.reads I d v u hd ru
  cases hd with
  | non => cases ru; exact PySem.P.repr_of_none ⟨.str _, H, I.kept (t' := s.toks + 1) (fun b o e => e), ⟨_, rfl⟩, q⟩
  | bl b => cases ru; exact PySem.P.repr_of_bool ⟨.str _, H, I.kept (t' := s.toks + 1) (fun b o e => e), ⟨_, rfl⟩, q⟩
  | int i =>
    obtain ⟨t, rfl⟩ := ru
    exact PySem.P.repr_of_int (by simpa [PyData.showable] using h1) ⟨.str _, H, I.kept (t' := s.toks + 1) (fun b o e => e), ⟨_, rfl⟩, q⟩
  | str i =>
    obtain ⟨t, rfl⟩ := ru
    exact PySem.P.repr_of_str ⟨.str _, H, I.kept (t' := s.toks + 1) (fun b o e => e), ⟨_, rfl⟩, q⟩ h4
  | @lst a xs ds e1 e2 =>
    cases ru
    exact repr_of_reads' rd h1 (fun z => by rw [h2] at z; cases z) hg (by omega) (fun b o e => e) (fun h' u tk hk => ⟨.str _, H, I.kept (t' := tk) hk, ⟨_, rfl⟩, q⟩) h4
  | @tup a xs ds e1 e2 =>
    cases ru
    exact repr_of_reads' rd h1 (fun z => by rw [h2] at z; cases z) hg (by omega) (fun b o e => e) (fun h' u tk hk => ⟨.str _, H, I.kept (t' := tk) hk, ⟨_, rfl⟩, q⟩) h4
theorem call_reprK {X : Cx} {K : PySem.W.Frag} (hK : X.K = K) (hg : X.A.guards = some []) (hu : X.A.units + 64 < cLine) : CallR X (.builtin "repr") (rRepr K) := hK ▸ call_repr hg hu
def reprV : U → Option U := fun x => x.py.bind fun d => if d.showable = true ∧ d.hasDict = false ∧ d.depth ≤ 40 ∧ d.shown.length ≤ lim then some (.str d.shown) else none
theorem rc_repr {K : PySem.W.Frag} : RC (rRepr K) (c1 reprV) := rc_one c1_one fun x z e v B H s rx Q q => by
  obtain ⟨d, ed, e⟩ := bind_some (show x.py.bind _ = _ from e)
  split at e
  · rename_i h
    cases e
    exact ⟨v, d, rfl, (rx.in s).dp ed, h.1, h.2.1, h.2.2.1, lim_size h.2.2.2, q _ B H (Go.refl s) (.str _)⟩
  · cases e
end
/-! ### defs that ask who is being shown -/
structure FnG (P : Program) (w : World) (K : PySem.W.Frag) (mg : Str → Option Value) (base : Heap) (CX : CXT) (k : Nat) (f : Addr) (fd : FuncData) (ps : List Str) (sp : Sp) : Prop where
  len : ∀ vs H Q E, sp vs H Q E → vs.length = ps.length
  run : ∀ (A : Around) (outer : List Env) (s : Shared) (H : Hp) (args : Args) (us : List Value) (vs : List V) (Q : VK) (E : XK), A.guards = some [] → Room k A → Env0 P w K mg base A outer s H → BindsTo s fd args (ps.zip us) → Vals vs us → sp vs H Q E →
    codeAny (model P w) A (.call (.ref f) args) (CR CX outer P w H s Q E) s
section
variable {P : Program} {w : World} {K : PySem.W.Frag} {mg : Str → Option Value} {base : Heap}
theorem FnG.of {CX : CXT} {k : Nat} {f : Addr} {fd : FuncData} {ps : List Str} {sp : Sp} (F : FnOk P w K mg base CX k f fd ps sp) : FnG P w K mg base CX k f fd ps sp := ⟨F.len, fun A outer s H args us vs Q E _ => F.run A outer s H args us vs Q E⟩
theorem Fun.okG {x qual : Str} {st : Stmt} {f : Addr} {fd : FuncData} {N ps : List Str} {k : Nat} {sp : Sp} (F : Fun K x qual st f fd) (S : FnScope N ps (defScope st)) (len : ∀ vs H Q E, sp vs H Q E → vs.length = ps.length)
    (hb : ∀ (cdv : Value) (A : Around) (outer : List Env) (s : Shared) (H : Hp) (vs : List V) (Q : VK) (E : XK), A.guards = some [] → Room k (A.deeper (envOfC qual (defScope st) s.heap.objs.size f cdv)) → sp vs H Q E →
      ∃ t, PSs (cxOf CX0 P w K mg base N qual (defScope st) f cdv A outer s H E).nox (defBody st) t ∧ t { nx := fun _ H' => Q .non H', rt := Q } (start N vs) H) : FnG P w K mg base CX0 (k + 1) f fd ps sp := by
  obtain ⟨oc, od, kV, doc, pm, an, cdv, ct, osl, rfl, lk, cd⟩ := F.ex
  refine ⟨len, fun A outer s H args us vs Q E hg hr e0 hbn r sp1 => ?_⟩
  have ln := len _ _ _ _ sp1
  have kin : K.In s.heap := e0.mod.kin.keeps fun b o e => (e0.bs b o e).1
  have nl : s.heap.NoLimit := e0.mod.nolimit.keeps fun b o e => (e0.bs b o e).1
  have kd : ∀ y ∈ ps.zip us, (defScope st).names.lookup y.1 = some .local ∨ ((defScope st).names.lookup y.1 = some .cell ∧ ((cellsFrom (s.heap.objs.size + 1) (defScope st).names []).lookup y.1).isSome = true) := fun ⟨n, v⟩ hy => by
    rcases S.par n (List.of_mem_zip hy).1 with z | z
    · exact .inl z
    · exact .inr ⟨z, PySem.W.cellsFrom_some _ _ _ (.inl z)⟩
  refine codeAny_call_function hr.depth (kin _ _ lk) rfl S.co S.gen rfl (PySem.W.codeRec_of kin cd) (hbn _ _ _ _ ?_)
  refine wpAny_newFunctionEnv_cells S.kind kd fun env he s1 x1 => ?_
  subst he
  refine ⟨nl.keeps x1.toInCall.keep, codeAny_func ?_⟩
  obtain ⟨t, ht, q⟩ := hb cdv A outer s H vs Q E hg (hr.deeper _) sp1
  have I : Inv (cxOf CX0 P w K mg base N qual (defScope st) f cdv A outer s H E) [] (start N vs) H s1 := inv_start S hr.hd e0 ln r x1
  refine wpAny_mono (ht.nox.run [] s1 (start N vs) H _ I q) (fun fl s2 hs => ?_) fun e s2 hs => hs
  cases fl with
  | ret u =>
    obtain ⟨v, σ2, H2, J, rv, q2⟩ := hs
    exact ⟨v, H2, J.os, J.bare, J.base, J.hok, rv, q2⟩
  | next =>
    obtain ⟨σ2, H2, J, q2⟩ := hs
    exact ⟨V.non, H2, J.os, J.bare, J.base, J.hok, rfl, q2⟩
  | brk =>
    obtain ⟨_, _, _, q2⟩ := hs
    exact False.elim q2
  | cont =>
    obtain ⟨_, _, _, q2⟩ := hs
    exact False.elim q2
end
section
variable {X : Cx} {CX : CXT} {k : Nat} {f : Addr} {fd : FuncData} {ps : List Str} {sp : Sp} {dvs : List V} {ds : List Value} {E : XK} {x : Str} {p pos : Pos} {e : Expr} {es : List Expr} {t : TA}
theorem pe_callG (F : FnG X.prog X.w X.K X.mg X.base CX k f fd ps sp) (hg0 : X.A.guards = some []) (hr : Room k X.A) (hg : Gl X x) (hm : X.mg x = some (.ref f)) (hk : PySem.W.keepIn X.K (.ref f) = true) (hb : Binds X.K fd ps ds) (hd : Vals dvs ds) (hx : Passes CX X E)
    (ha : PA X (e :: es) t) (hdb : (x == ("__debug__" : Str)) = false := by decide) (he : starEach (e :: es) X.env = (false, eval e X.env) :: starEach es X.env := by rfl) (hpl : (backTo pos (starEach es X.env)).any (·.1) = false := by rfl) :
    PE X (.Call (.Name x p) (e :: es) [] pos) (tCall sp dvs E t) := by
  refine ⟨fun pins s σ H Q I h => ?_⟩
  refine wpAny_Call_Name_kw (ld_glob I hg hm ?_ hdb)
  refine PySem.W.callWith_K (h₀ := X.base) I.ok.mod.kin hk (thn (ha.run pos pins s σ H _ I h) fun us s1 ⟨vs, H1, I1, r, q⟩ => ⟨I1.kIn, ?_⟩) he hpl
  have r2 : Vals (vs ++ dvs) (us ++ ds) := r.append hd
  have hl : (us ++ ds).length = ps.length := by rw [← r2.length]; exact F.len _ _ _ _ q
  refine wpAny_call (codeAny_mono (F.run X.A X.stack s1 H1 ⟨us, []⟩ (us ++ ds) (vs ++ dvs) Q E hg0 hr I1.env0 (hb s1 us I1.kIn hl) r2 q) fun r s2 hq => ?_)
  cases r with
  | error e => exact hx pins σ H1 s1 e s2 I1 hq
  | ok fl =>
    cases fl with
    | ret u => exact I1.after hq
    | next => exact False.elim hq
    | brk => exact False.elim hq
    | cont => exact False.elim hq
end
end Dn
set_option Elab.async false
set_option linter.all false
set_option maxRecDepth 100000
set_option maxHeartbeats 2000000
namespace Dn
open PySem L2 PySem.Spec PyProof.Rows
/-! ### what comes behind a loop -/
def withK {κ α : Type} (K : κ) (f : κ → α) : α := f K
theorem q_withS {κ α : Type} {K : κ} {f : κ → SM α} {us : List U} {R : α × List U} {G : Prop} (e : withK K f us = some R) (k : ∀ K', K' = K → f K' us = some R → G) : G := k K rfl e
theorem q_withO {κ α : Type} {K : κ} {f : κ → Option α} {R : α} {G : Prop} (e : withK K f = some R) (k : ∀ K', K' = K → f K' = some R → G) : G := k K rfl e
/-! ### the end of a law whose defs ask who is being shown -/
section
variable {P : Program} {w : World} {K : PySem.W.Frag} {mg mb : Str → Option Value} {s1 : Shared} {a : Addr} {vs : List Value} {ns : List Int}
/-- where the law begins: only the script is tracked -/
structure Beg (P : Program) (w : World) (K : PySem.W.Frag) (mg : Str → Option Value) (s1 : Shared) (a : Addr) (ns : List Int) (H : Hp) : Prop where
  only : Only H
  sq : SqL K H a (ns.map V.int)
  ok : HOk P w H s1.heap
  at_ : ∀ b, H b ≠ none → b = a
  no : H a ≠ none → K.lookup a = none
theorem beg_of (KX : K.In s1.heap) (ha : s1.heap.get? a = some { cls := .type "list", data := .seq vs.toArray }) (hi : IntsAre vs ns) (hl : ns.length ≤ sizeLine) : ∃ H, Beg P w K mg s1 a ns H := by
  have hv := vals_ints hi
  have hn := hi.length
  cases hk : K.lookup a with
  | some o =>
    obtain rfl := Option.some.inj (ha.symm.trans (KX a o hk))
    have q : SqL K (fun _ => none) a (ns.map V.int) := .inr ⟨_, vs.toArray, _, hk, rfl, rfl, rfl, by rw [List.size_toArray, hn]; exact hl, by simpa using hv⟩
    exact ⟨fun _ => none, fun _ => .inl rfl, q, fun b u z => (by cases (show (none : Option HO) = some u from z)), fun b z => absurd rfl z, fun z => absurd rfl z⟩
  | none =>
    let o : Obj := { cls := .type "list", data := .seq vs.toArray }
    let H : Hp := upd (fun _ => none) a (.frz o (.lst (ns.map V.int)))
    have e1 : H a = some (.frz o (.lst (ns.map V.int))) := upd_same
    have e2 : ∀ b, b ≠ a → H b = none := fun b hb => upd_ne hb
    refine ⟨H, fun b => ?_, .inl (.inr ⟨o, e1⟩), fun b u z => ?_, fun b z => ?_, fun _ => hk⟩
    · by_cases hb : b = a
      · subst hb; exact .inr ⟨o, _, e1⟩
      · exact .inl (e2 b hb)
    · by_cases hb : b = a
      · subst hb
        rw [e1] at z
        cases z
        exact ⟨ha, by rw [List.length_map]; exact hl, vs, _, hv, ha⟩
      · rw [e2 b hb] at z; cases z
    · by_cases hb : b = a
      · exact hb
      · exact absurd (e2 b hb) z
theorem law_callG {CX : CXT} {k : Nat} {fa : Addr} {fd : FuncData} {x : Str} {sp : Sp} (KX : K.In s1.heap) (gm : s1.heap.Ns mainGlobals mg) (gb : s1.heap.Ns builtinsNs mb) (bb : ∀ x : Str, x ≠ "__name__" → mb x = bootBuiltins x) (nl : s1.heap.NoLimit) (g0 : s1.gens = #[])
    (ha : s1.heap.get? a = some { cls := .type "list", data := .seq vs.toArray }) (hi : IntsAre vs ns) (hl : ns.length ≤ sizeLine) (hr : Room k callerA) (F : ∀ base : Heap, K.In base → base.Ns mainGlobals mg → FnG P w K mg base CX k fa fd [x] sp)
    (bnd : ∀ (s : Shared) (u : Value), BindsTo s fd ⟨[u], []⟩ [(x, u)]) (hsp : ∀ H : Hp, Only H → SqL K H a (ns.map V.int) → sp [.ref a] H (fun v _ => v = .bl true) fun _ _ _ => False) (hCX : ∀ H e s2, CX [] H s1 (fun _ _ _ => False) e s2 → False) :
    codeAny (model P w) callerA (.call (.ref fa) ⟨[.ref a], []⟩) (fun r s2 => r = .ok (.ret (.bool true)) ∧ OldK s1.heap s2.heap ∧ s2.os = s1.os ∧ AllBare s2.gens) s1 := by
  obtain ⟨H, bg⟩ := beg_of (P := P) (w := w) (mg := mg) KX ha hi hl
  have free : ∀ {b : Addr} {o : Obj} {es : Array DictEntry} {ep : Nat}, s1.heap.get? b = some o → o.data = .dict es ep → H b = none := fun {b o es ep} e d => by
    cases q : H b with
    | none => rfl
    | some u =>
      obtain rfl := bg.at_ b (fun z => by rw [q] at z; cases z)
      obtain rfl := Option.some.inj (ha.symm.trans e)
      cases (show Data.seq vs.toArray _ = Data.dict es ep from d)
  have ns2 : ∀ {b : Addr} {m : Str → Option Value}, s1.heap.Ns b m → (hidT s1.heap H).Ns b m := fun {b m} ⟨o, es, ep, e, d, r⟩ => ⟨o, es, ep, hidT_get e (free e d), d, r⟩
  have k2 : K.In (hidT s1.heap H) := fun b o e => hidT_get (KX b o e) (by
    cases q : H b with
    | none => rfl
    | some u =>
      obtain rfl := bg.at_ b (fun z => by rw [q] at z; cases z)
      rw [bg.no (fun z => by rw [q] at z; cases z)] at e; cases e)
  have md : Mod K mg (hidT s1.heap H) := ⟨k2, ns2 gm, ⟨mb, ns2 gb, bb⟩, let ⟨mc, h1, h2⟩ := nl; ⟨mc, ns2 h1, h2⟩⟩
  have nof : ∀ b ∈ frs ([] : List Env), H b = none := fun b z => nomatch (show b ∈ ([] : List Addr) from z)
  have e0 : Env0 P w K mg (hidT s1.heap H) callerA [] s1 H := ⟨rfl, md, fun b o e => of_hidT e, Nat.le_of_eq (hidT_size _ _), trivial, nof, bg.ok, .of_eq g0⟩
  refine codeAny_mono ((F _ k2 (ns2 gm)).run callerA [] s1 H ⟨[.ref a], []⟩ [.ref a] [.ref a] _ _ rfl hr e0 (bnd s1 (.ref a)) (.cons rfl .nil) (hsp H bg.only bg.sq)) fun r s2 h => ?_
  match r, h with
  | .error e, h => exact (hCX H e s2 h).elim
  | .ok .next, h => exact False.elim h
  | .ok .brk, h => exact False.elim h
  | .ok .cont, h => exact False.elim h
  | .ok (.ret u), h =>
    obtain ⟨v, H2, os, bare, un, ok2, rv, q⟩ := h
    obtain rfl : v = .bl true := q
    obtain rfl : u = Value.bool true := rv
    refine ⟨rfl, OldK.of_keep fun b o e => ?_, os, bare⟩
    rcases bg.only b with z | ⟨ob, xs, z⟩
    · exact un.keep b o e z (fun y => nomatch (show b ∈ ([] : List Addr) from y)) (by simp)
    · obtain ⟨e1, _⟩ := bg.ok b _ z
      obtain ⟨e2, _⟩ := ok2 b _ (un.frzs b ob _ z)
      obtain rfl := Option.some.inj (e.symm.trans e1)
      exact e2
end
theorem walk_ofG {l : PySem.W.OpenLaw} {n k : Nat} {q : Program} {loose : List Str} {XP : (Str → Option Value) → Heap → Prop} {YP : World → Heap → Prop} {d : DefRec} {K : Params → PySem.W.Frag} {sp : Sp} {x : Str}
    (hn : l.most = some n) (hz : n ≤ sizeLine) (df : d.params.defaults = []) (hr : Room k callerA) (hY : ∀ (w : World) (h : Heap), YP w h → (K w.params).In h)
    (F : ∀ (w : World) (mg : Str → Option Value) (fa : Addr) (h : Heap), (K w.params).In h → h.Ns mainGlobals mg → mg d.name = some (.ref fa) →
      ∃ fd : FuncData, (∀ (s : Shared) (u : Value), BindsTo s fd ⟨[u], []⟩ [(x, u)]) ∧ ∀ base : Heap, (K w.params).In base → base.Ns mainGlobals mg → FnG l.prog w (K w.params) mg base CX0 k fa fd [x] sp)
    (hsp : ∀ (K : PySem.W.Frag) (H : Hp) (a : Addr) (ns : List Int), ns.length ≤ n → Only H → SqL K H a (ns.map V.int) → sp [.ref a] H (fun v _ => v = .bl true) fun _ _ _ => False) :
    PySem.W.WalkO q loose XP YP l.row.toRowW d [] (fun f vs => PySem.call f vs) := by
  refine Att.attach_call hn df fun w s0 s1 mg mb fa o pm cd doc a vs ns G Y ho hd hcd hmg ha hi hlen g0 => ?_
  have KX := hY w _ Y
  obtain ⟨fd, hb, hF⟩ := F w mg fa _ KX G.T.g hmg
  exact law_callG KX G.T.g G.T.b G.T.builtins G.T.nolimit g0 ha hi (Nat.le_trans hlen hz) hr hF hb (fun H hO hS => hsp (K w.params) H a ns hlen hO hS) fun H e s2 h => h
end Dn
set_option Elab.async false
set_option linter.all false
set_option maxRecDepth 100000
set_option maxHeartbeats 2000000
namespace Dn
open PySem L2 PySem.Spec PyProof.Rows
/-! ### a written table -/
def entI (e : DictEntry) : Option (Str × Int) := match e.key, e.val with
  | .str x _, .int i _ => some (x, i)
  | _, _ => none
theorem ent_find {t : Str} : ∀ {es : List DictEntry} {tab : List (Str × Int)}, es.map entI = tab.map some →
    (∀ i, tab.lookup t = some i → ∃ e tk, es.find? (fun e => e.key.isStr t) = some e ∧ e.val = .int i tk) ∧ (tab.lookup t = none → es.find? (fun e => e.key.isStr t) = none) ∧ es.any (·.refKey) = false
  | [], [], _ => ⟨fun i h => (by cases h), fun _ => rfl, rfl⟩
  | [], _ :: _, h => by cases h
  | _ :: _, [], h => by cases h
  | e :: es, (k, n) :: tab, h => by
    rw [List.map_cons, List.map_cons] at h
    injection h with h1 h2
    obtain ⟨i1, i2, i3⟩ := ent_find (t := t) h2
    obtain ⟨eh, ek, ev⟩ := e
    unfold entI at h1
    simp only at h1
    split at h1
    · rename_i x tk i tk2
      cases h1
      have e3 : ((⟨eh, .str k tk, .int n tk2⟩ : DictEntry) :: es).any (·.refKey) = false := by
        rw [List.any_cons, i3]; rfl
      by_cases hk : t = k
      · subst hk
        have e1 : ((t, n) :: tab).lookup t = some n := by simp [List.lookup]
        have e2 : ((⟨eh, .str t tk, .int n tk2⟩ : DictEntry) :: es).find? (fun e => e.key.isStr t) = some ⟨eh, .str t tk, .int n tk2⟩ := by
          rw [List.find?_cons_of_pos]
          show (Value.str t tk).isStr t = true
          simp [Value.isStr]
        rw [e1, e2]
        exact ⟨fun i hi => by cases hi; exact ⟨_, tk2, rfl, rfl⟩, fun hi => (by cases hi), e3⟩
      · have e1 : ((k, n) :: tab).lookup t = tab.lookup t := by
          rw [List.lookup_cons]
          have : (t == k) = false := by simpa using hk
          rw [this]
        have e2 : ((⟨eh, .str k tk, .int n tk2⟩ : DictEntry) :: es).find? (fun e => e.key.isStr t) = es.find? (fun e => e.key.isStr t) := by
          rw [List.find?_cons_of_neg]
          show ¬ (Value.str k tk).isStr t = true
          simp [Value.isStr]
          exact fun z => hk z.symm
        rw [e1, e2]
        exact ⟨i1, i2, e3⟩
    · cases h1
theorem ktab_of {K : PySem.W.Frag} {d : Addr} {es : Array DictEntry} {n : Nat} {tab : List (Str × Int)} (h : K.lookup d = some ⟨.type "dict", none, .dict es n, #[]⟩) (e : es.toList.map entI = tab.map some) : KTab K d tab := fun t => by
  obtain ⟨i1, i2, i3⟩ := ent_find (t := t) e
  unfold PySem.W.nsIn
  rw [h]
  simp only
  cases q : tab.lookup t with
  | some i =>
    obtain ⟨en, tk, f1, f2⟩ := i1 i q
    rw [f1]
    exact ⟨_, rfl, fun j hj => by cases hj; exact ⟨tk, by rw [f2]⟩, fun z => by cases z⟩
  | none =>
    rw [i2 q, i3]
    exact ⟨none, rfl, fun j hj => (by cases hj), fun _ => rfl⟩
theorem kdict_of {K : PySem.W.Frag} {w : World} {d : Addr} {es : Array DictEntry} {n : Nat} (h : K.lookup d = some ⟨.type "dict", none, .dict es n, #[]⟩) (k : PySem.W.KeysLit w.params es.toList) (l : (d == sysModules) = false) : ∃ es n, KDict K w d es n := ⟨es, n, h, k, l⟩
/-! ### no list stands in the written part -/
def noList (K : PySem.W.Frag) : Bool := K.all fun p => match p.2.cls with
  | .type c => !(c == "list")
  | _ => true
theorem noList_sq {K : PySem.W.Frag} (h : noList K = true) {H : Hp} {a : Addr} {xs : List V} (s : SqL K H a xs) : Rd H a (.lst xs) := by
  rcases s with s | ⟨o, its, n, hk, hc, _⟩
  · exact s
  · exfalso
    have hm : (a, o) ∈ K := by
      clear h
      induction K with
      | nil => cases hk
      | cons p K ih =>
        obtain ⟨b, q⟩ := p
        rw [List.lookup_cons] at hk
        split at hk
        · rename_i e
          cases hk
          have : a = b := by simpa using e
          subst this
          exact List.mem_cons_self ..
        · exact List.mem_cons_of_mem _ (ih hk)
    have := List.all_eq_true.mp h _ hm
    rw [hc] at this
    exact absurd this (by decide)
/-! ### a law's promise -/
def spLaw : Sp := fun vs H Q _ => ∃ (a : Addr) (o : Obj) (ns : List Int), vs = [.ref a] ∧ H a = some (.frz o (.lst (ns.map V.int))) ∧ ns.length ≤ 63 ∧ ∀ H', Q (.bl true) H'
theorem spLaw_of [CTab] {m : U → Option U} (hm : ∀ ns : List Int, ns.length ≤ 63 → m (.frl (ns.map U.int)) = some (.bl true)) (vs : List V) (H : Hp) (Q : VK) (E : XK) (h : spLaw vs H Q E) : spU (a1 m) vs H Q E := by
  obtain ⟨a, o, ns, rfl, ha, hl, q⟩ := h
  refine ⟨upd (fun _ => none) a (.frz o (.lst (ns.map V.int))), [.frl (ns.map U.int)], .bl true, fun b u e => ?_, .cons (.frl upd_same (Rps.ints ns)) .nil, hm ns hl, fun v B2 H2 _ r => ?_⟩
  · by_cases hb : b = a
    · subst hb; rw [upd_same] at e; rw [ha]; exact e
    · rw [upd_ne hb] at e; cases e
  · cases r; exact q H2
theorem FnG.imp {P : Program} {w : World} {K : PySem.W.Frag} {mg : Str → Option Value} {base : Heap} {CX : CXT} {k : Nat} {f : Addr} {fd : FuncData} {ps : List Str} {sp sp' : Sp} (F : FnG P w K mg base CX k f fd ps sp) (h : ∀ vs H Q E, sp' vs H Q E → sp vs H Q E) : FnG P w K mg base CX k f fd ps sp' :=
  ⟨fun vs H Q E z => F.len vs H Q E (h _ _ _ _ z), fun A outer s H args us vs Q E hg hr he hb hv hs => F.run A outer s H args us vs Q E hg hr he hb hv (h _ _ _ _ hs)⟩
theorem walk_law {l : PySem.W.OpenLaw} {k : Nat} {q : Program} {loose : List Str} {XP : (Str → Option Value) → Heap → Prop} {YP : World → Heap → Prop} {d : DefRec} {K : Params → PySem.W.Frag} {x : Str}
    (hn : l.most = some 63) (df : d.params.defaults = []) (hr : Room k callerA) (hY : ∀ (w : World) (h : Heap), YP w h → (K w.params).In h) (hL : ∀ w : World, noList (K w.params) = true)
    (F : ∀ (w : World) (mg : Str → Option Value) (fa : Addr) (h : Heap), (K w.params).In h → h.Ns mainGlobals mg → mg d.name = some (.ref fa) →
      ∃ fd : FuncData, (∀ (s : Shared) (u : Value), BindsTo s fd ⟨[u], []⟩ [(x, u)]) ∧ ∀ base : Heap, (K w.params).In base → base.Ns mainGlobals mg → FnG l.prog w (K w.params) mg base CX0 k fa fd [x] spLaw) :
    PySem.W.WalkO q loose XP YP l.row.toRowW d [] (fun f vs => PySem.call f vs) := by
  refine Att.attach_call hn df fun w s0 s1 mg mb fa o pm cd doc a vs ns G Y ho hd hcd hmg ha hi hlen g0 => ?_
  have KX := hY w _ Y
  obtain ⟨fd, hb, hF⟩ := F w mg fa _ KX G.T.g hmg
  refine law_callG KX G.T.g G.T.b G.T.builtins G.T.nolimit g0 ha hi (Nat.le_trans hlen (by decide)) hr hF hb (fun H hO hS => ?_) fun H e s2 h => h
  rcases hO a with z | ⟨ob, xs, z⟩
  · rcases noList_sq (hL w) hS with y | ⟨_, y⟩
    · rw [z] at y; cases y
    · rw [z] at y; cases y
  · rcases noList_sq (hL w) hS with y | ⟨_, y⟩
    · rw [z] at y; cases y
    · exact ⟨a, _, ns, rfl, y, hlen, fun _ => rfl⟩
end Dn
set_option Elab.async false
set_option linter.all false
set_option maxRecDepth 100000
set_option maxHeartbeats 2000000
namespace Dn
open PySem L2
/-! ### the combinators, plainly -/
section
variable {α β : Type} {a b : U} {l : List U} {f : U → U → Option U} {us : List U}
@[simp] theorem op2_s : op2 f (some a) (some b) = f a b := rfl
@[simp] theorem op1_s {g : U → Option U} : op1 g (some a) = g a := rfl
@[simp] theorem callO_s {m : List U → Option U} : callO m (some l) = m l := rfl
@[simp] theorem consO_s : consO (some a) (some l) = some (a :: l) := rfl
@[simp] theorem isO_s {g : U → Option Bool} : isO g (some a) = (g a).map U.bl := rfl
@[simp] theorem testO_s {c : Bool} : testO (some (.bl c)) = some c := rfl
@[simp] theorem ifO_t {x y : Option α} : ifO (some true) x y = x := rfl
@[simp] theorem ifO_f {x y : Option α} : ifO (some false) x y = y := rfl
theorem ifO_s {x y : Option α} {c : Bool} : ifO (some c) x y = if c = true then x else y := rfl
@[simp] theorem andO_t {y : Option Bool} : andO (some true) y = y := rfl
@[simp] theorem andO_f {y : Option Bool} : andO (some false) y = some false := rfl
@[simp] theorem orO_t {y : Option Bool} : orO (some true) y = some true := rfl
@[simp] theorem orO_f {y : Option Bool} : orO (some false) y = y := rfl
theorem andO_s {x y : Bool} : andO (some x) (some y) = some (x && y) := by cases x <;> rfl
theorem orO_s {x y : Bool} : orO (some x) (some y) = some (x || y) := by cases x <;> rfl
@[simp] theorem notO_s {x : Bool} : notO (some x) = some (!x) := rfl
@[simp] theorem andV_t {y : Option U} : andV (some (.bl true)) y = y := rfl
@[simp] theorem andV_f {y : Option U} : andV (some (.bl false)) y = some (.bl false) := rfl
@[simp] theorem orV_t {y : Option U} : orV (some (.bl true)) y = some (.bl true) := rfl
@[simp] theorem orV_f {y : Option U} : orV (some (.bl false)) y = y := rfl
theorem andV_s {x y : Bool} : andV (some (.bl x)) (some (.bl y)) = some (.bl (x && y)) := by cases x <;> rfl
theorem orV_s {x y : Bool} : orV (some (.bl x)) (some (.bl y)) = some (.bl (x || y)) := by cases x <;> rfl
@[simp] theorem notV_s {x : Bool} : notV (some (.bl x)) = some (.bl (!x)) := rfl
theorem tupO_s (h : l.length ≤ lim) : tupO (some l) = some (.tup l) := by simp [tupO, h]
theorem lstO_s (h : l.length ≤ lim) : lstO (some l) = some (.lst l) := by simp [lstO, h]
@[simp] theorem tupO0 : tupO (some []) = some (.tup []) := rfl
@[simp] theorem tupO1 {x : U} : tupO (some [x]) = some (.tup [x]) := rfl
@[simp] theorem tupO2 {x y : U} : tupO (some [x, y]) = some (.tup [x, y]) := rfl
@[simp] theorem lstO0 : lstO (some []) = some (.lst []) := rfl
@[simp] theorem lstO1 {x : U} : lstO (some [x]) = some (.lst [x]) := rfl
@[simp] theorem lstO2 {x y : U} : lstO (some [x, y]) = some (.lst [x, y]) := rfl
@[simp] theorem slO_s {lo hi : Option Int} : slO (some a) (some lo) (some hi) = sliceV a lo hi := rfl
@[simp] theorem ptO_s {i : Int} : ptO (some (.int i)) = some (some i) := rfl
@[simp] theorem iterO_s {g : U → Option (List U)} : iterO g (some a) = g a := rfl
@[simp] theorem rngO_s {g : List U → Option (List U)} : rngO g (some l) = g l := rfl
@[simp] theorem compO_s {p : U → Option Bool} {g : U → Option U} : compO p g (some l) = lcO p g l := rfl
@[simp] theorem chainO_s {g g' : U → U → Option U} {c : U} {k : Bool} (h : g a b = some (.bl k)) : chainO g g' (some a) (some b) (some c) = if k = true then g' b c else some (.bl false) := by simp [chainO, h, U.asB]
@[simp] theorem addV_i {i j : Int} : addV (.int i) (.int j) = some (.int (i + j)) := rfl
@[simp] theorem subV_i {i j : Int} : subV (.int i) (.int j) = some (.int (i - j)) := rfl
@[simp] theorem ltV_i {i j : Int} : ltV (.int i) (.int j) = some (.bl (decide (i < j))) := rfl
@[simp] theorem leV_i {i j : Int} : leV (.int i) (.int j) = some (.bl (decide (i ≤ j))) := rfl
@[simp] theorem gtV_i {i j : Int} : gtV (.int i) (.int j) = some (.bl (decide (j < i))) := rfl
@[simp] theorem geV_i {i j : Int} : geV (.int i) (.int j) = some (.bl (decide (j ≤ i))) := rfl
@[simp] theorem negV_i {i : Int} : negV (.int i) = some (.int (-i)) := rfl
@[simp] theorem intV_i {i : Int} : c1 intV [.int i] = some (.int i) := rfl
@[simp] theorem absU_i {i : Int} : c1 absU [.int i] = some (.int (if i < 0 then -i else i)) := rfl
theorem mulV_r {i j : Int} (h : -(2 ^ 64) < j ∧ j < 2 ^ 64) : mulV (.int i) (.int j) = some (.int (i * j)) := by
  show (if (-(2 ^ 64) < i ∧ i < 2 ^ 64) ∨ (-(2 ^ 64) < j ∧ j < 2 ^ 64) then some (U.int (i * j)) else none) = _
  rw [if_pos (.inr h)]
theorem mulV_l {i j : Int} (h : -(2 ^ 64) < i ∧ i < 2 ^ 64) : mulV (.int i) (.int j) = some (.int (i * j)) := by
  show (if (-(2 ^ 64) < i ∧ i < 2 ^ 64) ∨ (-(2 ^ 64) < j ∧ j < 2 ^ 64) then some (U.int (i * j)) else none) = _
  rw [if_pos (.inl h)]
theorem modV_i {i j : Int} (h : 0 < j) : modV (.int i) (.int j) = some (.int (i % j)) := by
  show (if 0 < j then some (U.int (i % j)) else none) = _
  rw [if_pos h]
theorem fdivV_i {i j : Int} (h : 0 < j ∧ j < 1073741824) : fdivV (.int i) (.int j) = some (.int (i / j)) := by
  show (if 0 < j ∧ j < 1073741824 then some (U.int (i / j)) else none) = _
  rw [if_pos h]
theorem divmod_i {i j : Int} (h : 0 < j ∧ j < 1073741824) : divmodU [.int i, .int j] = some (.tup [.int (i / j), .int (i % j)]) := by
  show (if 0 < j ∧ j < 1073741824 then some (U.tup [.int (i / j), .int (i % j)]) else none) = _
  rw [if_pos h]
/-! the state -/
@[simp] theorem pureS_s {o : Option α} : pureS o us = o.map fun x => (x, us) := rfl
theorem bindS_s {F : SM α} {k : α → SM β} {x : α} {us1 : List U} (h : F us = some (x, us1)) : bindS F k us = k x us1 := by simp [bindS, h]
@[simp] theorem bindS_pure {x : α} {k : α → SM β} : bindS (pureS (some x)) k = k x := rfl
@[simp] theorem withK_s {κ : Type} {K : κ} {g : κ → α} : withK K g = g K := rfl
theorem ifS_s {c : SM Bool} {F G : SM α} {b : Bool} {us1 : List U} (h : c us = some (b, us1)) : ifS c F G us = if b = true then F us1 else G us1 := by
  simp only [ifS, bindS, h, Option.bind_some]
  cases b <;> rfl
theorem ifS_p {F G : SM α} {b : Bool} : ifS (pureS (some b)) F G us = if b = true then F us else G us := ifS_s rfl
theorem opS_s {F G : SM U} {us1 us2 : List U} {z : U} (h : F us = some (a, us1)) (h2 : G us1 = some (b, us2)) (h3 : f a b = some z) : opS f F G us = some (z, us2) := by
  simp [opS, bindS, h, h2, h3]
@[simp] theorem opS_p : opS f (pureS (some a)) (pureS (some b)) = pureS (f a b) := rfl
@[simp] theorem consS_p : consS (pureS (some a)) (pureS (some l)) = pureS (some (a :: l)) := rfl
@[simp] theorem callS_p {m : List U → Option U} : callS m (pureS (some l)) = pureS (m l) := rfl
@[simp] theorem testS_p : testS (pureS (some a)) = pureS a.asB := rfl
theorem consS_s {F : SM U} {G : SM (List U)} {us1 us2 : List U} (h : F us = some (a, us1)) (h2 : G us1 = some (l, us2)) : consS F G us = some (a :: l, us2) := by
  simp [consS, bindS, h, h2]
theorem lockO_s {j : Nat} {o : U → Option U} {u z : U} (h : us[j]? = some u) (hu : u.own = true) (ho : o u = some z) (hz : z.pl = true) : lockO j o us = some (z, us) := by
  simp [lockO, h, hu, ho, hz]
theorem lockT_s {j : Nat} {o : U → Option Bool} {u : U} {z : Bool} (h : us[j]? = some u) (hu : u.own = true) (ho : o u = some z) : lockT j o us = some (z, us) := by
  simp [lockT, h, hu, ho]
theorem callM_s {j : Nat} {m : U → List U → Option (U × U)} {xs : List U} {u r u' : U} (h : us[j]? = some u) (hu : u.own = true) (hm : m u xs = some (r, u')) : callM j m xs us = some (r, us.set j u') := by
  simp [callM, h, hu, hm]
end
theorem atI_nat' {α : Type} {xs : List α} {k : Nat} {x : α} (h : xs[k]? = some x) : atI xs (k : Int) = some x := by
  have hk : k < xs.length := (List.getElem?_eq_some_iff.mp h).1
  unfold atI ixN
  rw [if_pos (by omega), if_pos (by omega)]
  simpa using h
theorem atI_int {α : Type} {xs : List α} {i : Int} (h0 : 0 ≤ i) (h1 : i < xs.length) : ∃ x, atI xs i = some x ∧ xs[i.toNat]? = some x := by
  have hk : i.toNat < xs.length := by omega
  refine ⟨xs[i.toNat], ?_, by simp [hk]⟩
  unfold atI ixN
  rw [if_pos h0, if_pos h1]
  simp [hk]
theorem atI_neg1 {α : Type} {xs : List α} {x : α} : atI (xs ++ [x]) (-1) = some x := by
  unfold atI ixN
  rw [if_neg (by decide), if_pos (by simp; omega)]
  have : (-1 + ((xs ++ [x]).length : Int)).toNat = xs.length := by simp; omega
  rw [Option.bind_some, this]
  simp
def ct0 : CTab := ⟨fun i => i, fun _ _ h => h⟩
theorem get0n {w0 : U} {rest : List U} : getV (.lst (w0 :: rest)) (.int 0) = some w0 := @get0 ct0 _ _
theorem cut1n {w0 : U} {rest : List U} : sliceV (.lst (w0 :: rest)) (some 1) none = some (.lst rest) := @cut1 ct0 _ _
/-! ### comprehensions, plainly -/
theorem lcL_mf {α : Type} {p : U → Option Bool} {f : U → Option U} {g : α → U} {q : α → Bool} {h : α → U} : ∀ (l : List α), (∀ a ∈ l, p (g a) = some (q a)) → (∀ a ∈ l, q a = true → f (g a) = some (h a)) → lcL p f (l.map g) = some ((l.filter q).map h)
  | [], _, _ => rfl
  | a :: l, hp, hf => by
    have ih := lcL_mf (p := p) (f := f) l (fun b hb => hp b (List.mem_cons_of_mem _ hb)) (fun b hb => hf b (List.mem_cons_of_mem _ hb))
    have h1 := hp a (List.mem_cons_self ..)
    rw [List.map_cons]
    unfold lcL
    rw [h1, Option.bind_some]
    cases hq : q a with
    | true =>
      rw [if_pos rfl, hf a (List.mem_cons_self ..) hq, Option.bind_some, ih, Option.map_some, List.filter_cons, hq]
      rfl
    | false =>
      rw [if_neg Bool.false_ne_true, ih, List.filter_cons, hq]
      rfl
theorem lcO_mf {α : Type} {p : U → Option Bool} {f : U → Option U} {g : α → U} {q : α → Bool} {h : α → U} (l : List α) (hl : l.length ≤ lim) (hp : ∀ a ∈ l, p (g a) = some (q a)) (hf : ∀ a ∈ l, q a = true → f (g a) = some (h a)) : lcO p f (l.map g) = some (.lst ((l.filter q).map h)) := by
  unfold lcO
  rw [if_pos (by rw [List.length_map]; exact hl), lcL_mf l hp hf]
  rfl
theorem lcO_map {α : Type} {f : U → Option U} {g : α → U} {h : α → U} (l : List α) (hl : l.length ≤ lim) (hf : ∀ a ∈ l, f (g a) = some (h a)) : lcO (fun _ => some true) f (l.map g) = some (.lst (l.map h)) := by
  have := lcO_mf (p := fun _ => some true) (q := fun _ => true) l hl (fun _ _ => rfl) (fun a ha _ => hf a ha)
  rwa [List.filter_eq_self.mpr (fun _ _ => rfl)] at this
theorem bools_map {α : Type} {p : α → Bool} : ∀ l : List α, bools (l.map fun a => U.bl (p a)) = some (l.map p)
  | [] => rfl
  | a :: l => by
    show (bools (l.map fun a => U.bl (p a))).map (fun r => p a :: r) = _
    rw [bools_map l]
    rfl
theorem all_map {α : Type} {p : α → Bool} (l : List α) : c1 allV [.lst (l.map fun a => U.bl (p a))] = some (.bl (l.all p)) := by
  show (bools _).map (fun bs => U.bl (bs.all id)) = _
  rw [bools_map, Option.map_some, List.all_map]
  rfl
theorem any_map {α : Type} {p : α → Bool} (l : List α) : c1 anyV [.lst (l.map fun a => U.bl (p a))] = some (.bl (l.any p)) := by
  show (bools _).map (fun bs => U.bl (bs.any id)) = _
  rw [bools_map, Option.map_some, List.any_map]
  rfl
theorem strsU_map : ∀ ss : List Str, strsU (ss.map U.str) = some ss
  | [] => rfl
  | s :: ss => by
    show (strsU (ss.map U.str)).map (fun r => s :: r) = _
    rw [strsU_map ss]
    rfl
theorem join_lst {a : Str} {ss : List Str} (h : (ss.map (·.length)).sum + ss.length * a.length ≤ 16777216) : joinV (.str a) (.lst (ss.map U.str)) = some (.str (Txt.join a ss)) := by
  show ((strsU (ss.map U.str)).bind fun ss => if (ss.map (·.length)).sum + ss.length * a.length ≤ 16777216 then some (U.str (Txt.join a ss)) else none) = _
  rw [strsU_map, Option.bind_some, if_pos h]
theorem joinL_length (S : List Nat) : ∀ ps : List (List Nat), (TL.joinL S ps).length ≤ (ps.map (·.length)).sum + ps.length * S.length
  | [] => by simp [TL.joinL]
  | [p] => by simp [TL.joinL]
  | p :: q :: r => by
    have ih := joinL_length S (q :: r)
    show (p ++ (S ++ TL.joinL S (q :: r))).length ≤ _
    simp only [List.length_append, List.map_cons, List.sum_cons, List.length_cons, Nat.add_mul, Nat.one_mul] at ih ⊢
    omega
theorem join_length (a : Str) (ss : List Str) : (Txt.join a ss).length ≤ (ss.map (·.length)).sum + ss.length * a.length := by
  have h := joinL_length (TL.tl a) (ss.map TL.tl)
  rw [TL.join_eq, TL.len_tl, TL.tl_join]
  simp only [List.map_map, List.length_map] at h
  have e : (ss.map ((fun x => x.length) ∘ TL.tl)) = ss.map (·.length) := by
    apply List.map_congr_left
    intro s _
    exact (TL.len_tl s).symm
  rw [e, ← TL.len_tl a] at h
  exact h
theorem mem_joinL {S : List Nat} {c : Nat} : ∀ {ps : List (List Nat)}, c ∈ TL.joinL S ps → c ∈ S ∨ ∃ p ∈ ps, c ∈ p
  | [], h => by cases h
  | [p], h => .inr ⟨p, List.mem_singleton.mpr rfl, h⟩
  | p :: q :: r, h => by
    have h : c ∈ p ++ (S ++ TL.joinL S (q :: r)) := h
    rcases List.mem_append.mp h with h | h
    · exact .inr ⟨p, List.mem_cons_self .., h⟩
    · rcases List.mem_append.mp h with h | h
      · exact .inl h
      · rcases mem_joinL h with h | ⟨x, hx, h⟩
        · exact .inl h
        · exact .inr ⟨x, List.mem_cons_of_mem _ hx, h⟩
end Dn
set_option Elab.async false
set_option linter.all false
set_option maxRecDepth 100000
set_option maxHeartbeats 2000000
namespace Hall
/-! ### the marriage theorem, over lists -/
section
variable {α β : Type} [DecidableEq α] [DecidableEq β]
theorem filter_or {p q : α → Bool} : ∀ l : List α, (l.filter fun a => p a || q a).length = (l.filter p).length + (l.filter fun a => !p a && q a).length
  | [] => rfl
  | a :: l => by
    have ih := filter_or (p := p) (q := q) l
    simp only [List.filter_cons]
    cases hp : p a <;> cases hq : q a <;> simp [ih] <;> omega
theorem filter_erase {p : β → Bool} {b : β} : ∀ {l : List β}, l.Nodup → (l.filter p).length ≤ ((l.filter fun x => decide (x ≠ b)).filter p).length + 1
  | [], _ => by simp
  | x :: l, nd => by
    rw [List.nodup_cons] at nd
    have ih := filter_erase (p := p) (b := b) nd.2
    by_cases e : x = b
    · subst e
      have h1 : l.filter (fun y => decide (y ≠ x)) = l := List.filter_eq_self.mpr fun y hy => by
        simp only [decide_eq_true_eq]
        exact fun z => nd.1 (z ▸ hy)
      simp only [List.filter_cons, ne_eq, not_true_eq_false, decide_false, Bool.false_eq_true, if_false]
      simp only [ne_eq] at h1
      rw [h1]
      split <;> simp
    · simp only [List.filter_cons, ne_eq, e, not_false_eq_true, decide_true, if_true]
      simp only [ne_eq] at ih
      split
      · simp only [List.length_cons]; omega
      · exact ih
/-- the neighbours -/
def nb (adj : α → β → Bool) (R : List β) (A : List α) (P : α → Bool) : List β := R.filter fun b => A.any fun a => P a && adj a b
def HallC (adj : α → β → Bool) (R : List β) (A : List α) : Prop := ∀ P : α → Bool, (A.filter P).length ≤ (nb adj R A P).length
theorem any_filter {p q : α → Bool} {l : List α} : (l.filter p).any q = l.any fun a => p a && q a := by
  induction l with
  | nil => rfl
  | cons a l ih =>
    simp only [List.filter_cons, List.any_cons]
    cases hp : p a <;> simp [ih]
theorem hall [Inhabited β] (adj : α → β → Bool) : ∀ (n : Nat) (A : List α) (R : List β), A.length ≤ n → A.Nodup → R.Nodup → HallC adj R A → ∃ f : α → β, (∀ a ∈ A, f a ∈ R ∧ adj a (f a) = true) ∧ ∀ a ∈ A, ∀ b ∈ A, f a = f b → a = b := by
  intro n
  induction n with
  | zero =>
    intro A R hn _ _ hc
    have : A = [] := List.length_eq_zero_iff.mp (by omega)
    subst this
    exact ⟨fun _ => default, fun a h => (by cases h), fun a h => (by cases h)⟩
  | succ n ih =>
    intro A R hn nd ndR hc
    cases A with
    | nil => exact ⟨fun _ => default, fun a h => (by cases h), fun a h => (by cases h)⟩
    | cons a A' =>
      by_cases hs : ∀ P : α → Bool, (a :: A').filter P ≠ [] → (∃ x ∈ a :: A', P x = false) → ((a :: A').filter P).length < (nb adj R (a :: A') P).length
      · have nd' := List.nodup_cons.mp nd
        obtain ⟨b, hbR, hab⟩ : ∃ b ∈ R, adj a b = true := by
          have h1 := hc fun x => decide (x = a)
          have h2 : 0 < ((a :: A').filter fun x => decide (x = a)).length := by
            simp [List.filter_cons]
          have h3 : 0 < (nb adj R (a :: A') fun x => decide (x = a)).length := by omega
          obtain ⟨b, hb⟩ := List.exists_mem_of_length_pos h3
          obtain ⟨hb1, hb2⟩ := List.mem_filter.mp hb
          obtain ⟨x, _, hx⟩ := List.any_eq_true.mp hb2
          rw [Bool.and_eq_true] at hx
          have : x = a := of_decide_eq_true hx.1
          subst this
          exact ⟨b, hb1, hx.2⟩
        have hc' : HallC adj (R.filter fun x => decide (x ≠ b)) A' := by
          intro P
          by_cases he : A'.filter P = []
          · rw [he]; simp
          · let P' : α → Bool := fun x => P x && decide (x ≠ a)
            have e0 : P' a = false := by simp [P']
            have e2 : ∀ x ∈ A', P' x = P x := fun x hx => by
              have hxa : x ≠ a := fun z => nd'.1 (z ▸ hx)
              simp [P', hxa]
            have e1 : (a :: A').filter P' = A'.filter P := by
              rw [List.filter_cons, e0, if_neg Bool.false_ne_true]
              exact List.filter_congr e2
            have h1 := hs P' (by rw [e1]; exact he) ⟨a, List.mem_cons_self .., e0⟩
            rw [e1] at h1
            have e3 : nb adj R (a :: A') P' = R.filter fun b => A'.any fun x => P x && adj x b := by
              unfold nb
              congr 1
              funext b
              rw [List.any_cons, e0, Bool.false_and, Bool.false_or]
              rw [Bool.eq_iff_iff, List.any_eq_true, List.any_eq_true]
              exact ⟨fun ⟨x, hx, h⟩ => ⟨x, hx, by rw [← e2 x hx]; exact h⟩, fun ⟨x, hx, h⟩ => ⟨x, hx, by rw [e2 x hx]; exact h⟩⟩
            rw [e3] at h1
            have h2 := filter_erase (p := fun b => A'.any fun x => P x && adj x b) (b := b) ndR
            show _ ≤ ((R.filter fun x => decide (x ≠ b)).filter fun b => A'.any fun x => P x && adj x b).length
            omega
        rw [List.length_cons] at hn
        obtain ⟨f, hf1, hf2⟩ := ih A' _ (by omega) nd'.2 (ndR.filter _) hc'
        have hfb : ∀ x ∈ A', f x ∈ R ∧ f x ≠ b := fun x hx => by
          have := List.mem_filter.mp (hf1 x hx).1
          exact ⟨this.1, of_decide_eq_true this.2⟩
        refine ⟨fun x => if x = a then b else f x, fun x hx => ?_, fun x hx y hy e => ?_⟩
        · by_cases hxa : x = a
          · subst hxa; simp only [if_true]; exact ⟨hbR, hab⟩
          · simp only [if_neg hxa]
            have hx' : x ∈ A' := (List.mem_cons.mp hx).resolve_left hxa
            exact ⟨(hfb x hx').1, (hf1 x hx').2⟩
        · by_cases hxa : x = a
          · by_cases hya : y = a
            · rw [hxa, hya]
            · simp only [if_pos hxa, if_neg hya] at e
              exact absurd e.symm (hfb y ((List.mem_cons.mp hy).resolve_left hya)).2
          · by_cases hya : y = a
            · simp only [if_neg hxa, if_pos hya] at e
              exact absurd e (hfb x ((List.mem_cons.mp hx).resolve_left hxa)).2
            · simp only [if_neg hxa, if_neg hya] at e
              exact hf2 x ((List.mem_cons.mp hx).resolve_left hxa) y ((List.mem_cons.mp hy).resolve_left hya) e
      · obtain ⟨P, hne, ⟨x0, hx0, hPx0⟩, htight⟩ : ∃ P : α → Bool, (a :: A').filter P ≠ [] ∧ (∃ x ∈ a :: A', P x = false) ∧ ¬ ((a :: A').filter P).length < (nb adj R (a :: A') P).length := by
          apply Classical.byContradiction
          intro hh
          apply hs
          intro P h1 h2
          apply Classical.byContradiction
          intro h3
          exact hh ⟨P, h1, h2, h3⟩
        generalize a :: A' = A at *
        have hA : (A.filter P).length + (A.filter fun x => !P x).length = A.length := by
          have h := filter_or (p := P) (q := fun _ => true) A
          simp only [Bool.or_true, Bool.and_true] at h
          rw [List.filter_eq_self.mpr (fun _ _ => rfl)] at h
          omega
        have h1 : 0 < (A.filter P).length := List.length_pos_iff.mpr hne
        have h2 : 0 < (A.filter fun x => !P x).length := List.length_pos_iff.mpr fun z => by
          have : x0 ∈ A.filter fun x => !P x := List.mem_filter.mpr ⟨hx0, by rw [hPx0]; rfl⟩
          rw [z] at this; cases this
        have c1 : HallC adj R (A.filter P) := by
          intro Q
          have h := hc fun x => P x && Q x
          have e1 : (A.filter P).filter Q = A.filter fun x => P x && Q x := by
            rw [List.filter_filter]
            congr 1
            funext x
            rw [Bool.and_comm]
          have e2 : nb adj R (A.filter P) Q = nb adj R A fun x => P x && Q x := by
            unfold nb
            congr 1
            funext b
            rw [any_filter]
            congr 1
            funext x
            rw [Bool.and_assoc]
          rw [e1, e2]
          exact h
        have c2 : HallC adj (R.filter fun b => !(A.any fun x => P x && adj x b)) (A.filter fun x => !P x) := by
          intro Q
          have h := hc fun x => P x || Q x
          have e1 := filter_or (p := P) (q := Q) A
          have e2 : (A.filter fun x => !P x).filter Q = A.filter fun x => !P x && Q x := by
            rw [List.filter_filter]
            congr 1
            funext x
            rw [Bool.and_comm]
          have e3 : (nb adj R A fun x => P x || Q x) = R.filter fun b => (A.any fun x => P x && adj x b) || (A.any fun x => (!P x && Q x) && adj x b) := by
            unfold nb
            congr 1
            funext b
            rw [Bool.eq_iff_iff]
            simp only [Bool.or_eq_true, List.any_eq_true, Bool.and_eq_true]
            constructor
            · rintro ⟨x, hx, h, h'⟩
              rcases h with h | h
              · exact .inl ⟨x, hx, h, h'⟩
              · cases hp : P x with
                | true => exact .inl ⟨x, hx, hp, h'⟩
                | false => exact .inr ⟨x, hx, ⟨by rw [hp]; rfl, h⟩, h'⟩
            · rintro (⟨x, hx, h, h'⟩ | ⟨x, hx, ⟨_, h⟩, h'⟩)
              · exact ⟨x, hx, .inl h, h'⟩
              · exact ⟨x, hx, .inr h, h'⟩
          have e4 := filter_or (p := fun b => A.any fun x => P x && adj x b) (q := fun b => A.any fun x => (!P x && Q x) && adj x b) R
          have e5 : nb adj (R.filter fun b => !(A.any fun x => P x && adj x b)) (A.filter fun x => !P x) Q = R.filter fun b => !(A.any fun x => P x && adj x b) && (A.any fun x => (!P x && Q x) && adj x b) := by
            unfold nb
            rw [List.filter_filter]
            congr 1
            funext b
            rw [any_filter, Bool.and_comm]
            congr 2
            funext x
            rw [Bool.and_assoc]
          rw [e2, e5]
          rw [e3] at h
          have e6 : (nb adj R A P).length = (R.filter fun b => A.any fun x => P x && adj x b).length := rfl
          omega
        obtain ⟨f1, a1, a2⟩ := ih (A.filter P) R (by omega) (nd.filter _) ndR c1
        obtain ⟨f2, b1, b2⟩ := ih (A.filter fun x => !P x) _ (by omega) (nd.filter _) (ndR.filter _) c2
        have in1 : ∀ x ∈ A, P x = true → x ∈ A.filter P := fun x hx h => List.mem_filter.mpr ⟨hx, h⟩
        have in2 : ∀ x ∈ A, P x = false → x ∈ A.filter fun x => !P x := fun x hx h => List.mem_filter.mpr ⟨hx, by rw [h]; rfl⟩
        have cross : ∀ x ∈ A, ∀ y ∈ A, P x = true → P y = false → f1 x ≠ f2 y := fun x hx y hy h h' e => by
          have q1 := a1 x (in1 x hx h)
          have q2 := (List.mem_filter.mp (b1 y (in2 y hy h')).1).2
          rw [← e] at q2
          have : (A.any fun z => P z && adj z (f1 x)) = true := List.any_eq_true.mpr ⟨x, hx, by rw [h, q1.2]; rfl⟩
          rw [this] at q2
          cases q2
        refine ⟨fun x => if P x = true then f1 x else f2 x, fun x hx => ?_, fun x hx y hy e => ?_⟩
        · cases hp : P x with
          | true =>
            simp only [hp, if_true]
            exact a1 x (in1 x hx hp)
          | false =>
            simp only [hp, Bool.false_eq_true, if_false]
            have := b1 x (in2 x hx hp)
            exact ⟨(List.mem_filter.mp this.1).1, this.2⟩
        · cases hp : P x with
          | true =>
            cases hq : P y with
            | true =>
              simp only [hp, hq, if_true] at e
              exact a2 x (in1 x hx hp) y (in1 y hy hq) e
            | false =>
              simp only [hp, hq, if_true, Bool.false_eq_true, if_false] at e
              exact absurd e (cross x hx y hy hp hq)
          | false =>
            cases hq : P y with
            | true =>
              simp only [hp, hq, if_true, Bool.false_eq_true, if_false] at e
              exact absurd e.symm (cross y hy x hx hq hp)
            | false =>
              simp only [hp, hq, Bool.false_eq_true, if_false] at e
              exact b2 x (in2 x hx hp) y (in2 y hy hq) e
end
/-! ### one of each -/
section
variable {α : Type} [DecidableEq α]
def pick : List (List α) → List α → Prop
  | [], [] => True
  | a :: as, x :: xs => x ∈ a ∧ pick as xs
  | _, _ => False
theorem pick_map {β : Type} {g : β → α} {h : β → List α} : ∀ {L : List β}, (∀ b ∈ L, g b ∈ h b) → pick (L.map h) (L.map g)
  | [], _ => trivial
  | b :: L, hb => ⟨hb b (List.mem_cons_self ..), pick_map fun x hx => hb x (List.mem_cons_of_mem _ hx)⟩
theorem pick_length : ∀ {as : List (List α)} {e : List α}, pick as e → e.length = as.length
  | [], [], _ => rfl
  | a :: as, x :: xs, h => by rw [List.length_cons, List.length_cons, pick_length h.2]
  | [], _ :: _, h => h.elim
  | _ :: _, [], h => h.elim
theorem filter_mono {β : Type} {p q : β → Bool} (h : ∀ x, p x = true → q x = true) : ∀ l : List β, (l.filter p).length ≤ (l.filter q).length
  | [] => Nat.le_refl _
  | x :: l => by
    have ih := filter_mono h l
    simp only [List.filter_cons]
    cases hp : p x with
    | true => rw [h x hp]; simpa using ih
    | false => cases q x <;> simp <;> omega
theorem cover_count : ∀ {as : List (List α)} {e : List α} {S : List α}, pick as e → S.Nodup → (∀ s ∈ S, s ∈ e) → S.length ≤ (as.filter fun l => S.any fun s => decide (s ∈ l)).length
  | [], [], S, _, _, hs => by
    cases S with
    | nil => simp
    | cons s S => exact absurd (hs s (List.mem_cons_self ..)) (by simp)
  | a :: as, x :: xs, S, hp, nd, hs => by
    by_cases hx : x ∈ S
    · have hS : ∀ s ∈ S.erase x, s ∈ xs := fun s h => by
        have h1 := List.mem_of_mem_erase h
        have h2 : s ≠ x := fun z => by
          subst z
          exact (List.Nodup.not_mem_erase nd) h
        exact (List.mem_cons.mp (hs s h1)).resolve_left h2
      have ih := cover_count hp.2 (nd.erase x) hS
      have hl : (S.erase x).length = S.length - 1 := List.length_erase_of_mem hx
      have hpos : 0 < S.length := List.length_pos_of_mem hx
      have hm := filter_mono (p := fun l => (S.erase x).any fun s => decide (s ∈ l)) (q := fun l => S.any fun s => decide (s ∈ l)) (fun l h => by
        obtain ⟨s, h1, h2⟩ := List.any_eq_true.mp h
        exact List.any_eq_true.mpr ⟨s, List.mem_of_mem_erase h1, h2⟩) as
      have ha : (S.any fun s => decide (s ∈ a)) = true := List.any_eq_true.mpr ⟨x, hx, by simpa using hp.1⟩
      rw [List.filter_cons, ha, if_pos rfl, List.length_cons]
      omega
    · have hS : ∀ s ∈ S, s ∈ xs := fun s h => (List.mem_cons.mp (hs s h)).resolve_left fun z => hx (z ▸ h)
      have ih := cover_count hp.2 nd hS
      rw [List.filter_cons]
      split
      · rw [List.length_cons]; omega
      · exact ih
  | [], _ :: _, _, h, _, _ => h.elim
  | _ :: _, [], _, h, _, _ => h.elim
theorem pick_cover [Inhabited α] {as : List (List α)} (hne : ∀ l ∈ as, l ≠ []) {A : List α} (nd : A.Nodup) : (∃ e, pick as e ∧ ∀ a ∈ A, a ∈ e) ↔ ∀ P : α → Bool, (A.filter P).length ≤ (as.filter fun l => A.any fun a => P a && decide (a ∈ l)).length := by
  constructor
  · rintro ⟨e, he, hc⟩ P
    have := cover_count he (nd.filter P) fun s hs => hc s (List.mem_filter.mp hs).1
    simp only [any_filter] at this
    exact this
  · intro h
    have hz : as.zipIdx.map Prod.fst = as := List.zipIdx_map_fst 0 as
    have hnd : as.zipIdx.Nodup := by
      have h1 : (as.zipIdx.map Prod.snd).Nodup := by
        rw [List.zipIdx_map_snd]
        exact List.nodup_range'
      exact List.Pairwise.of_map (f := Prod.snd) (S := (· ≠ ·)) (fun a b hab e => hab (by rw [e])) h1
    have hc : HallC (fun (a : α) (b : List α × Nat) => decide (a ∈ b.1)) as.zipIdx A := by
      intro P
      have h1 := h P
      have e : (nb (fun (a : α) (b : List α × Nat) => decide (a ∈ b.1)) as.zipIdx A P).length = (as.filter fun l => A.any fun a => P a && decide (a ∈ l)).length := by
        conv => rhs; rw [← hz]
        rw [List.filter_map, List.length_map]
        rfl
      rw [e]
      exact h1
    obtain ⟨f, f1, f2⟩ := hall (fun (a : α) (b : List α × Nat) => decide (a ∈ b.1)) A.length A as.zipIdx (Nat.le_refl _) nd hnd hc
    let g : List α × Nat → α := fun b => match A.find? fun a => decide (f a = b) with
      | some a => a
      | none => b.1.headD default
    refine ⟨as.zipIdx.map g, ?_, fun a ha => ?_⟩
    · have := pick_map (g := g) (h := Prod.fst) (L := as.zipIdx) fun b hb => by
        show (match A.find? fun a => decide (f a = b) with
          | some a => a
          | none => b.1.headD default) ∈ b.1
        split
        · rename_i a ea
          have h1 := List.find?_some ea
          have h2 := List.mem_of_find?_eq_some ea
          have h3 := (f1 a h2).2
          rw [of_decide_eq_true h1] at h3
          exact of_decide_eq_true h3
        · have hb1 : b.1 ∈ as := by rw [← hz]; exact List.mem_map.mpr ⟨b, hb, rfl⟩
          have := hne _ hb1
          cases hl : b.1 with
          | nil => exact absurd hl this
          | cons x r => exact List.mem_cons_self ..
      rw [hz] at this
      exact this
    · refine List.mem_map.mpr ⟨f a, (f1 a ha).1, ?_⟩
      show (match A.find? fun a' => decide (f a' = f a) with
          | some a => a
          | none => (f a).1.headD default) = a
      split
      · rename_i a' ea
        have h0 := List.find?_some ea
        have h1 : f a' = f a := of_decide_eq_true h0
        exact f2 a' (List.mem_of_find?_eq_some ea) a ha h1
      · rename_i ea
        have := List.find?_eq_none.mp ea a ha
        simp at this
end
end Hall
set_option Elab.async false
set_option linter.all false
set_option maxRecDepth 100000
set_option maxHeartbeats 4000000
namespace K53
open PySem L2 Dn
variable [CTab]
def top (i : Nat) : Stmt := PySem.Challenge.pw_basetrees_k53_whole_lots_judged.main.body.getD i (.Pass ⟨0, 0, 0, 0⟩)
def tab_SIZES : List (Str × Int) := [("has", 2), ("lacks", 2), ("sure", 4), ("never", 4), ("open", 4), ("count", 3), ("best", 4)]
structure Tx (w : World) (K : PySem.W.Frag) (mg : Str → Option Value) (a : Nat → Addr) (d : Nat → FuncData) : Prop where
  b_len : mg "len" = none
  b_all : mg "all" = none
  b_any : mg "any" = none
  b_tuple : mg "tuple" = none
  b_isinstance : mg "isinstance" = none
  b_str : mg "str" = none
  b_list : mg "list" = none
  b_int : mg "int" = none
  b_abs : mg "abs" = none
  b_divmod : mg "divmod" = none
  b_range : mg "range" = none
  b_min : mg "min" = none
  b_max : mg "max" = none
  b_repr : mg "repr" = none
  c_MOST_SIGNS : ∃ t : Tok, mg "MOST_SIGNS" = some (.int 8 t)
  c_SIGNS : ∃ t : Tok, mg "SIGNS" = some (.str "abcdefghijklmnopqrstuvwxyz" t)
  c_MOST_COPIES : ∃ t : Tok, mg "MOST_COPIES" = some (.int 40 t)
  f_is_word : Fun K "is_word" "is_word" (top 11) (a 11) (d 11)
  g_is_word : mg "is_word" = some (.ref (a 11))
  bd_is_word : Binds K (d 11) ["word"] []
  f_are_words : Fun K "are_words" "are_words" (top 12) (a 12) (d 12)
  g_are_words : mg "are_words" = some (.ref (a 12))
  bd_are_words : Binds K (d 12) ["words", "before"] []
  f_Plain___init__ : Fun K "__init__" "Plain.__init__" (inClass (top 13) 0) (a 1000) (d 1000)
  bd_Plain___init__ : Binds K (d 1000) ["self"] []
  f_Plain_put : Fun K "put" "Plain.put" (inClass (top 13) 1) (a 1001) (d 1001)
  mt_Plain_put : Meth K (CTab.ct 0) "put" (a 1001)
  bd_Plain_put : Binds K (d 1001) ["self", "words"] []
  f_Plain_links : Fun K "links" "Plain.links" (inClass (top 13) 2) (a 1002) (d 1002)
  mt_Plain_links : Meth K (CTab.ct 0) "links" (a 1002)
  bd_Plain_links : Binds K (d 1002) ["self"] []
  f_Plain_inner : Fun K "inner" "Plain.inner" (inClass (top 13) 3) (a 1003) (d 1003)
  mt_Plain_inner : Meth K (CTab.ct 0) "inner" (a 1003)
  bd_Plain_inner : Binds K (d 1003) ["self"] []
  f_plain_of : Fun K "plain_of" "plain_of" (top 14) (a 14) (d 14)
  g_plain_of : mg "plain_of" = some (.ref (a 14))
  bd_plain_of : Binds K (d 14) ["value"] []
  f_is_lot : Fun K "is_lot" "is_lot" (top 22) (a 22) (d 22)
  g_is_lot : mg "is_lot" = some (.ref (a 22))
  bd_is_lot : Binds K (d 22) ["plain", "value"] []
  f_made_of : Fun K "made_of" "made_of" (top 23) (a 23) (d 23)
  g_made_of : mg "made_of" = some (.ref (a 23))
  bd_made_of : Binds K (d 23) ["plain", "lot", "link"] []
  f_shows_lack : Fun K "shows_lack" "shows_lack" (top 24) (a 24) (d 24)
  g_shows_lack : mg "shows_lack" = some (.ref (a 24))
  bd_shows_lack : Binds K (d 24) ["plain", "value"] []
  f_accepts : Fun K "accepts" "accepts" (top 32) (a 32) (d 32)
  g_accepts : mg "accepts" = some (.ref (a 32))
  bd_accepts : Binds K (d 32) ["claim", "certificate"] []
  f_law_urn : Fun K "_law_urn" "_law_urn" (top 34) (a 34) (d 34)
  g_law_urn : mg "_law_urn" = some (.ref (a 34))
  bd_law_urn : Binds K (d 34) ["_law_script", "_law_turn"] []
  f_law_pull : Fun K "_law_pull" "_law_pull" (top 35) (a 35) (d 35)
  g_law_pull : mg "_law_pull" = some (.ref (a 35))
  bd_law_pull : Binds K (d 35) ["_law_urn_here", "_law_size"] []
  f_law_of : Fun K "_law_of" "_law_of" (top 36) (a 36) (d 36)
  g_law_of : mg "_law_of" = some (.ref (a 36))
  bd_law_of : Binds K (d 36) ["_law_urn_here", "_law_some"] []
  f_law_words : Fun K "_law_words" "_law_words" (top 37) (a 37) (d 37)
  g_law_words : mg "_law_words" = some (.ref (a 37))
  bd_law_words : Binds K (d 37) ["_law_urn_here", "_law_many"] []
  f_law_rows : Fun K "_law_rows" "_law_rows" (top 38) (a 38) (d 38)
  g_law_rows : mg "_law_rows" = some (.ref (a 38))
  bd_law_rows : Binds K (d 38) ["_law_urn_here", "_law_many", "_law_doubles"] []
  f_law_text : Fun K "_law_text" "_law_text" (top 39) (a 39) (d 39)
  g_law_text : mg "_law_text" = some (.ref (a 39))
  bd_law_text : Binds K (d 39) ["_law_rows_now"] []
  f_law_lines : Fun K "_law_lines" "_law_lines" (top 40) (a 40) (d 40)
  g_law_lines : mg "_law_lines" = some (.ref (a 40))
  bd_law_lines : Binds K (d 40) ["_law_rows_now"] []
  f_law_inner : Fun K "_law_inner" "_law_inner" (top 41) (a 41) (d 41)
  g_law_inner : mg "_law_inner" = some (.ref (a 41))
  bd_law_inner : Binds K (d 41) ["_law_rows_now"] []
  f_law_tuples : Fun K "_law_tuples" "_law_tuples" (top 42) (a 42) (d 42)
  g_law_tuples : mg "_law_tuples" = some (.ref (a 42))
  bd_law_tuples : Binds K (d 42) ["_law_rows_now"] []
  f_law_is_choice : Fun K "_law_is_choice" "_law_is_choice" (top 43) (a 43) (d 43)
  g_law_is_choice : mg "_law_is_choice" = some (.ref (a 43))
  bd_law_is_choice : Binds K (d 43) ["_law_rows_now", "_law_thing"] []
  f_law_choices : Fun K "_law_choices" "_law_choices" (top 44) (a 44) (d 44)
  g_law_choices : mg "_law_choices" = some (.ref (a 44))
  bd_law_choices : Binds K (d 44) ["_law_rows_now"] []
  f_law_made : Fun K "_law_made" "_law_made" (top 45) (a 45) (d 45)
  g_law_made : mg "_law_made" = some (.ref (a 45))
  bd_law_made : Binds K (d 45) ["_law_rows_now", "_law_lot_now", "_law_line"] []
  f_law_is_lot : Fun K "_law_is_lot" "_law_is_lot" (top 46) (a 46) (d 46)
  g_law_is_lot : mg "_law_is_lot" = some (.ref (a 46))
  bd_law_is_lot : Binds K (d 46) ["_law_rows_now", "_law_thing"] []
  f_law_lacks : Fun K "_law_lacks" "_law_lacks" (top 47) (a 47) (d 47)
  g_law_lacks : mg "_law_lacks" = some (.ref (a 47))
  bd_law_lacks : Binds K (d 47) ["_law_rows_now", "_law_thing"] []
  f_law_lots : Fun K "_law_lots" "_law_lots" (top 48) (a 48) (d 48)
  g_law_lots : mg "_law_lots" = some (.ref (a 48))
  bd_law_lots : Binds K (d 48) ["_law_rows_now"] []
  f_law_bent_lot : Fun K "_law_bent_lot" "_law_bent_lot" (top 49) (a 49) (d 49)
  g_law_bent_lot : mg "_law_bent_lot" = some (.ref (a 49))
  bd_law_bent_lot : Binds K (d 49) ["_law_urn_here", "_law_rows_now", "_law_lot_now"] []
  f_law_right : Fun K "_law_right" "_law_right" (top 50) (a 50) (d 50)
  g_law_right : mg "_law_right" = some (.ref (a 50))
  bd_law_right : Binds K (d 50) ["_law_urn_here"] []
  f_law : Fun K "law" "law" (top 51) (a 51) (d 51)
  g_law : mg "law" = some (.ref (a 51))
  bd_law : Binds K (d 51) ["_law_script"] []
  cl_Plain : Cls K (CTab.ct 0)
  n_Plain_origins : NoAttr K (CTab.ct 0) "origins"
  n_Plain_made : NoAttr K (CTab.ct 0) "made"
  mk_Plain : Mk K (CTab.ct 0) (a 1000)
  g_Plain : mg "Plain" = some (.ref (CTab.ct 0))
  g_SIZES : mg "SIZES" = some (.ref (a 2016))
  kd_SIZES : ∃ es n, KDict K w (a 2016) es n
  kt_SIZES : KTab K (a 2016) tab_SIZES
theorem bb_len : bootBuiltins "len" = some (.builtin "len") := by decide +kernel
theorem bb_all : bootBuiltins "all" = some (.builtin "all") := by decide +kernel
theorem bb_any : bootBuiltins "any" = some (.builtin "any") := by decide +kernel
theorem bb_tuple : bootBuiltins "tuple" = some (.type "tuple") := by decide +kernel
theorem bb_isinstance : bootBuiltins "isinstance" = some (.builtin "isinstance") := by decide +kernel
theorem bb_str : bootBuiltins "str" = some (.type "str") := by decide +kernel
theorem bb_list : bootBuiltins "list" = some (.type "list") := by decide +kernel
theorem bb_int : bootBuiltins "int" = some (.type "int") := by decide +kernel
theorem bb_abs : bootBuiltins "abs" = some (.builtin "abs") := by decide +kernel
theorem bb_divmod : bootBuiltins "divmod" = some (.builtin "divmod") := by decide +kernel
theorem bb_range : bootBuiltins "range" = some (.type "range") := by decide +kernel
theorem bb_min : bootBuiltins "min" = some (.builtin "min") := by decide +kernel
theorem bb_max : bootBuiltins "max" = some (.builtin "max") := by decide +kernel
theorem bb_repr : bootBuiltins "repr" = some (.builtin "repr") := by decide +kernel
section
variable {P : Program} {w : World} {K : PySem.W.Frag} {mg : Str → Option Value} {base : Heap} {a : Nat → Addr} {d : Nat → FuncData}
/-! is_word -/
abbrev s_is_word : Stmt := top 11
abbrev N_is_word : List Str := ["word", "sign"]
theorem sc_is_word : FnScope N_is_word ["word"] (defScope s_is_word) := ⟨rfl, rfl, rfl, by decide +kernel, rfl, by decide +kernel, by decide +kernel⟩
def m_is_word (p0 : U) : Option U := (andV (chainO ltV leV (some (U.int 0)) (callO lenV (consO (some p0) (some []))) (some (U.int 8))) (callO (c1 allV) (consO (compO (fun u4 => (some true)) (fun u4 => (op2 inV2 (some u4) (some (U.str "abcdefghijklmnopqrstuvwxyz")))) (iterO U.signs (some p0))) (some []))))
theorem ok_is_word (T : Tx w K mg a d) : FnOk P w K mg base CX0 1 (a 11) (d 11) ["word"] (spU (a1 m_is_word)) := by
  refine T.f_is_word.ok sc_is_word (fun vs H Q E h => ?_) (fun cdv A outer s H vs Q E hr h => ?_)
  · obtain ⟨B, p0, vp0, r, rfl, _⟩ := sp1 h
    rfl
  · obtain ⟨B, p0, vp0, r, rfl, sB, rp0, hM, k⟩ := sp1 h
    have nd := sc_is_word.nd
    refine ⟨_, (pss_cons (ps_ret (pe_and (pe_chain op_lt op_le pe_int (pe_callB (call_lenK (K := K) rfl) (by rfl) T.b_len bb_len (pa_cons (pv 0) pa_nil)) (pe_glob (v := .int 8) (by rfl) T.c_MOST_SIGNS.choose_spec ⟨_, rfl⟩)) (pe_one (pe_callB (cr_allK (K := K) rfl rfl) (by rfl) T.b_all bb_all (pa_cons (pe_lc (own := [("sign", 1)]) (g := gName 1) (tt := tYes) (by rfl) nd (pi_str (pv 0)) (blkOk_by (own := [("sign", 1)]) (N := N_is_word) (sc := defScope s_is_word) (by decide +kernel)) (fun _ _ _ _ _ => pg_name (i := 1) nd rfl (Or.inl rfl)) (fun _ _ _ _ _ => pts_nil) (fun _ _ _ _ _ => (pe_cmpR (op_inA hr.units) (pv 1) (pe_glob (v := .str "abcdefghijklmnopqrstuvwxyz") (by rfl) T.c_SIGNS.choose_spec ⟨_, rfl⟩) (by rfl)))) pa_nil))))) pss_nil), ?_⟩
    exact (q_ret (eo_and (eo_chain rv_lt rv_le eo_int (eo_cb' rc_len (ea_cons (eo_var rfl rp0) ea_nil)) eo_int) (eo_cb' rc_all (ea_cons (eo_lc (ei_str (eo_var rfl rp0)) (fun _ => rfl) (fun u4 v5 B2 H3 g1 r6 => et_yes) (fun u4 v5 B2 H3 g1 r6 => (eo_op2 rv_in (eo_var rfl r6) eo_str))) ea_nil))) hM (Go.refl sB) k)
/-! are_words -/
abbrev s_are_words : Stmt := top 12
abbrev N_are_words : List Str := ["words", "before", "word"]
theorem sc_are_words : FnScope N_are_words ["words", "before"] (defScope s_are_words) := ⟨rfl, rfl, rfl, by decide +kernel, rfl, by decide +kernel, by decide +kernel⟩
def m_are_words (p0 : U) (p1 : U) : Option U := (ifO (orO (notO (testO (callO (a1 m_is_word) (consO (op2 getV (some p0) (some (U.int 0))) (some []))))) (testO (op2 inV2 (op2 getV (some p0) (some (U.int 0))) (some p1)))) (some (U.bl false)) (ifO (testO (op2 eqV2 (callO lenV (consO (some p1) (some []))) (some (U.int 0)))) (op2 eqV2 (callO lenV (consO (some p0) (some []))) (some (U.int 1))) (ifO (orO (testO (op2 notInV2 (callO lenV (consO (some p0) (some []))) (tupO (consO (some (U.int 2)) (consO (some (U.int 3)) (some [])))))) (andO (testO (op2 eqV2 (op2 getV (some p0) (some (U.int 1))) (op2 getV (some p0) (op1 negV (some (U.int 1)))))) (testO (op2 eqV2 (callO lenV (consO (some p0) (some []))) (some (U.int 3)))))) (some (U.bl false)) (callO (c1 allV) (consO (compO (fun u34 => (some true)) (fun u34 => (op2 inV2 (some u34) (some p1))) (iterO U.iter (slO (some p0) (ptO (some (U.int 1))) (some none)))) (some []))))))
theorem ok_are_words (T : Tx w K mg a d) : FnOk P w K mg base CX0 2 (a 12) (d 12) ["words", "before"] (spU (a2 m_are_words)) := by
  refine T.f_are_words.ok sc_are_words (fun vs H Q E h => ?_) (fun cdv A outer s H vs Q E hr h => ?_)
  · obtain ⟨B, p0, p1, vp0, vp1, r, rfl, _⟩ := sp2 h
    rfl
  · obtain ⟨B, p0, p1, vp0, vp1, r, rfl, sB, rp0, rp1, hM, k⟩ := sp2 h
    have nd := sc_are_words.nd
    refine ⟨_, (pss_cons (ps_if (PW.pt (pw_or (pt_not (pt_val (pe_call (ok_is_word T) (hr.mono (by decide)) (by rfl) T.g_is_word T.f_is_word.kp T.bd_is_word .nil pass0 (pa_cons (pe_ix (ix_anyK (K := K) rfl hr.units) (pv 0) pe_int (fun _ _ => rfl)) pa_nil)))) (pw_or1 (pt_cmpR (op_inA hr.units) (pe_ix (ix_anyK (K := K) rfl hr.units) (pv 0) pe_int (fun _ _ => rfl)) (pv 1) (by rfl))))) (pss_cons (ps_ret pe_bl) pss_nil) pss_nil) (pss_cons (ps_if (pt_cmpR (op_eqU hr.units) (pe_callB (call_lenK (K := K) rfl) (by rfl) T.b_len bb_len (pa_cons (pv 1) pa_nil)) pe_int (nomark _)) (pss_cons (ps_ret (pe_cmpR (op_eqU hr.units) (pe_callB (call_lenK (K := K) rfl) (by rfl) T.b_len bb_len (pa_cons (pv 0) pa_nil)) pe_int (nomark _))) pss_nil) pss_nil) (pss_cons (ps_if (PW.pt (pw_or (pt_cmpR (op_notInA hr.units) (pe_callB (call_lenK (K := K) rfl) (by rfl) T.b_len bb_len (pa_cons (pv 0) pa_nil)) (pe_tup (pa_cons pe_int (pa_cons pe_int pa_nil))) (by rfl)) (pw_or1 (PW.pt (pw_and (pt_cmpR (op_eqU hr.units) (pe_ix (ix_anyK (K := K) rfl hr.units) (pv 0) pe_int (fun _ _ => rfl)) (pe_ix (ix_anyK (K := K) rfl hr.units) (pv 0) (pe_un un_neg pe_int) (fun _ _ => rfl)) (nomark _)) (pw_and1 (pt_cmpR (op_eqU hr.units) (pe_callB (call_lenK (K := K) rfl) (by rfl) T.b_len bb_len (pa_cons (pv 0) pa_nil)) pe_int (nomark _)))))))) (pss_cons (ps_ret pe_bl) pss_nil) pss_nil) (pss_cons (ps_ret (pe_callB (cr_allK (K := K) rfl rfl) (by rfl) T.b_all bb_all (pa_cons (pe_lc (own := [("word", 2)]) (g := gName 2) (tt := tYes) (by rfl) nd (pi_anyK (K := K) rfl (pe_slice (sl_anyK (K := K) rfl) (pv 0) (po_some pe_int) po_none)) (blkOk_by (own := [("word", 2)]) (N := N_are_words) (sc := defScope s_are_words) (by decide +kernel)) (fun _ _ _ _ _ => pg_name (i := 2) nd rfl (Or.inl rfl)) (fun _ _ _ _ _ => pts_nil) (fun _ _ _ _ _ => (pe_cmpR (op_inA hr.units) (pv 2) (pv 1) (by rfl)))) pa_nil))) pss_nil)))), ?_⟩
    exact (q_if sB (et_or (et_not (et_B (eo_call (ea_cons (eo_op2 rv_get (eo_var rfl rp0) eo_int) ea_nil)))) (et_test (eo_op2 rv_in (eo_op2 rv_get (eo_var rfl rp0) eo_int) (eo_var rfl rp1)))) hM (fun e7 h3 B1 H2 g9 => (q_ret eo_bl h3 ((Go.refl sB).trans g9) k)) (fun e8 h6 B4 H5 g10 => (q_if g10.bh (et_test (eo_op2 rv_eq (eo_cb' rc_len (ea_cons (eo_var rfl (rp1.up g10)) ea_nil)) eo_int)) h6 (fun e17 h13 B11 H12 g19 => (q_ret (eo_op2 rv_eq (eo_cb' rc_len (ea_cons (eo_var rfl ((rp0.up g10).up g19)) ea_nil)) eo_int) h13 (((Go.refl sB).trans g10).trans g19) k)) (fun e18 h16 B14 H15 g20 => (q_if g20.bh (et_or (et_test (eo_op2 rv_notIn (eo_cb' rc_len (ea_cons (eo_var rfl ((rp0.up g10).up g20)) ea_nil)) (eo_tup (ea_cons eo_int (ea_cons eo_int ea_nil))))) (et_and (et_test (eo_op2 rv_eq (eo_op2 rv_get (eo_var rfl ((rp0.up g10).up g20)) eo_int) (eo_op2 rv_get (eo_var rfl ((rp0.up g10).up g20)) (eo_op1 ru_neg eo_int)))) (et_test (eo_op2 rv_eq (eo_cb' rc_len (ea_cons (eo_var rfl ((rp0.up g10).up g20)) ea_nil)) eo_int)))) h16 (fun e27 h23 B21 H22 g29 => (q_ret eo_bl h23 ((((Go.refl sB).trans g10).trans g20).trans g29) k)) (fun e28 h26 B24 H25 g30 => (q_ret (eo_cb' rc_all (ea_cons (eo_lc (ei_any (eo_slice (eo_var rfl (((rp0.up g10).up g20).up g30)) (ep_of eo_int) ep_no)) (fun _ => rfl) (fun u34 v35 B32 H33 g31 r36 => et_yes) (fun u34 v35 B32 H33 g31 r36 => (eo_op2 rv_in (eo_var rfl r36) (eo_var rfl ((((rp1.up g10).up g20).up g30).upA g31))))) ea_nil)) h26 ((((Go.refl sB).trans g10).trans g20).trans g30) k)))))))
/-! Plain.__init__ -/
abbrev s_Plain___init__ : Stmt := inClass (top 13) 0
theorem sc_init : FnScope ["self"] ["self"] (defScope s_Plain___init__) := ⟨rfl, rfl, rfl, by decide +kernel, rfl, by decide +kernel, by decide +kernel⟩
theorem ok_init (T : Tx w K mg a d) : FnOk P w K mg base CX0 1 (a 1000) (d 1000) ["self"] spInit := by
  refine T.f_Plain___init__.ok sc_init (fun vs H Q E h => ?_) (fun cdv A outer s H vs Q E hr h => ?_)
  · obtain ⟨B, x, dx, _, rfl, _⟩ := h
    rfl
  · obtain ⟨B, x, dx, sB, rfl, hx, hd, hne, bx, bd, k⟩ := h
    refine ⟨_, pss_cons (ps_fld (pv 0) pe_dnewK rfl) (pss_cons (ps_fld (pv 0) pe_dnewK rfl) pss_nil), ?_⟩
    exact init_reads T.cl_Plain T.n_Plain_origins T.n_Plain_made sB hx hd hne bx bd k
/-! Plain.put -/
abbrev s_Plain_put : Stmt := inClass (top 13) 1
abbrev N_Plain_put : List Str := ["self", "words", "word"]
def m_Plain_put1 (org : List (Key × U)) (mad : List (Key × List U)) (w0 : U) (rest : List U) : Option Bool := (orO (testO (op2 eqV2 (callO lenV (consO (op1 (fldV 0 "origins") (some (plU org mad))) (some []))) (some (U.int 40)))) (notO (testO (callO (a2 m_are_words) (consO (some (U.lst (w0 :: rest))) (consO (op1 (fldV 0 "origins") (some (plU org mad))) (some [])))))))
def m_Plain_put2 (org : List (Key × U)) (mad : List (Key × List U)) (w0 : U) (rest : List U) : Option Bool := (testO (callO (c1 anyV) (consO (compO (fun u4 => (some true)) (fun u4 => (op2 eqV2 (callO lenV (consO (op2 getV (op1 (fldV 0 "made") (some (plU org mad))) (some u4)) (some []))) (some (U.int 2)))) (iterO U.iter (slO (some (U.lst (w0 :: rest))) (ptO (some (U.int 1))) (some none)))) (some []))))
def m_Plain_put (org : List (Key × U)) (mad : List (Key × List U)) (words : U) : Option (Bool × List (Key × U) × List (Key × List U)) := match words with
  | .lst (w0 :: rest) => if rest.length ≤ lim then putP (m_Plain_put1 org mad w0 rest) (m_Plain_put2 org mad w0 rest) org mad w0 rest else none
  | _ => none
theorem sc_put : FnScope N_Plain_put ["self", "words"] (defScope s_Plain_put) := ⟨rfl, rfl, rfl, by decide +kernel, rfl, by decide +kernel, by decide +kernel⟩
theorem ok_put (T : Tx w K mg a d) : FnOk P w K mg base CX0 3 (a 1001) (d 1001) ["self", "words"] (spPut m_Plain_put) := by
  refine T.f_Plain_put.ok sc_put (fun vs H Q E h => ?_) (fun cdv A outer s H vs Q E hr h => ?_)
  · obtain ⟨B, x, dx, o, m, ls, org, mad, wv, words, b, org2, mad2, _, rfl, _⟩ := h
    rfl
  · obtain ⟨B, x, dx, o, m, ls, org, mad, wv, words, b, org2, mad2, sB, rfl, PL, rW, hM, k⟩ := h
    have nd := sc_put.nd
    have hu := Nat.lt_of_le_of_lt (Nat.add_le_add_left (show 1 ≤ 64 by decide) _) hr.units
    unfold m_Plain_put at hM
    split at hM
    · rename_i w0 rest
      split at hM
      · rename_i hlim
        refine ⟨_, (pss_cons (ps_if (pt_lock (pt_lock (PW.pt (pw_or (pt_cmpR (op_eqU hr.units) (pe_callB (call_lenK (K := K) rfl) (by rfl) T.b_len bb_len (pa_cons (pe_fldK (K := K) rfl (pv 0)) pa_nil)) (pe_glob (v := .int 40) (by rfl) T.c_MOST_COPIES.choose_spec ⟨_, rfl⟩) (nomark _)) (pw_or1 (pt_not (pt_val (pe_call (ok_are_words T) (hr.mono (by decide)) (by rfl) T.g_are_words T.f_are_words.kp T.bd_are_words .nil pass0 (pa_cons (pv 1) (pa_cons (pe_fldK (K := K) rfl (pv 0)) pa_nil)))))))))) (pss_cons (ps_ret pe_bl) pss_nil) pss_nil) (pss_cons (ps_if (pt_lock (pt_lock (pt_val (pe_callB (cr_anyK (K := K) rfl rfl) (by rfl) T.b_any bb_any (pa_cons (pe_lc (own := [("word", 2)]) (g := gName 2) (tt := tYes) (by rfl) nd (pi_anyK (K := K) rfl (pe_slice (sl_anyK (K := K) rfl) (pv 1) (po_some pe_int) po_none)) (blkOk_by (own := [("word", 2)]) (N := N_Plain_put) (sc := defScope s_Plain_put) (by decide +kernel)) (fun _ _ _ _ _ => pg_name (i := 2) nd rfl (Or.inl rfl)) (fun _ _ _ _ _ => pts_nil) (fun _ _ _ _ _ => (pe_cmpR (op_eqU hr.units) (pe_callB (call_lenK (K := K) rfl) (by rfl) T.b_len bb_len (pa_cons (pe_ix (ix_anyK (K := K) rfl hr.units) (pe_fldK (K := K) rfl (pv 0)) (pv 2) (fun _ _ => rfl)) pa_nil)) pe_int (nomark _)))) pa_nil))))) (pss_cons (ps_ret pe_bl) pss_nil) pss_nil) (pss_cons (ps_dput (by exact hu) (pe_fldK (K := K) rfl (pv 0)) (pe_ix (ix_anyK (K := K) rfl hr.units) (pv 1) pe_int (fun _ _ => rfl)) (pe_callTy (call_tupleK (K := K) rfl) (by rfl) T.b_tuple bb_tuple (pa_cons (pe_slice (sl_anyK (K := K) rfl) (pv 1) (po_some pe_int) po_none) pa_nil)) rfl) (pss_cons (ps_dput (by exact hu) (pe_fldK (K := K) rfl (pv 0)) (pe_ix (ix_anyK (K := K) rfl hr.units) (pv 1) pe_int (fun _ _ => rfl)) (pe_lst pa_nil) rfl) (pss_cons (ps_for PassesOwn.never rfl (pi_anyK (K := K) rfl (pe_slice (sl_anyK (K := K) rfl) (pv 1) (po_some pe_int) po_none)) (pg_name (i := 2) nd rfl (Or.inl rfl)) (pss_cons (ps_expr (pe_appK (K := K) rfl (pe_ix (ix_anyK (K := K) rfl hr.units) (pe_fldK (K := K) rfl (pv 0)) (pv 2) (fun _ _ => rfl)) (pa_cons (pe_ix (ix_anyK (K := K) rfl hr.units) (pv 1) pe_int (fun _ _ => rfl)) pa_nil))) pss_nil)) (pss_cons (ps_ret pe_bl) pss_nil)))))), ?_⟩
        refine put_reads (t1 := m_Plain_put1 org mad w0 rest) (t2 := m_Plain_put2 org mad w0 rest) (w0 := w0) (rest := rest) T.cl_Plain T.n_Plain_origins T.n_Plain_made PL sB ?_ ?_ ?_ ?_ ?_ hM k
        · exact etg_peekT PL fun B1 H1 sQ rS => (et_or (et_test (eo_op2 rv_eq (eo_cb' rc_len (ea_cons (eo_fld T.cl_Plain T.n_Plain_origins (eo_var rfl rS)) ea_nil)) eo_int)) (et_not (et_B (eo_call (ea_cons (eo_var rfl (rW.sm sQ)) (ea_cons (eo_fld T.cl_Plain T.n_Plain_origins (eo_var rfl rS)) ea_nil))))))
        · exact fun B1 H1 g1 => etg_peekT (PL.go g1) fun B2 H2 sQ1 rS => (have sQ := g1.b.trans sQ1; (et_B (eo_cb' rc_any (ea_cons (eo_lc (ei_any (eo_slice (eo_var rfl (rW.sm sQ)) (ep_of eo_int) ep_no)) (fun _ => rfl) (fun u4 v5 B2 H3 g1 r6 => et_yes) (fun u4 v5 B2 H3 g1 r6 => (eo_op2 rv_eq (eo_cb' rc_len (ea_cons (eo_op2 rv_get (eo_fld T.cl_Plain T.n_Plain_made (eo_var rfl (rS.upA g1))) (eo_var rfl r6)) ea_nil)) eo_int))) ea_nil))))
        · intro ow B1 H1 sQ
          have e0 : (op2 getV (some (U.lst (w0 :: rest))) (some (U.int 0))) = some w0 := get0
          rw [← e0]
          exact (eo_op2 rv_get (eo_var rfl (rW.sm sQ)) eo_int)
        · intro B1 H1 sQ
          have e0 : (callO (c1 tupleV) (consO (slO (some (U.lst (w0 :: rest))) (ptO (some (U.int 1))) (some none)) (some []))) = some (U.tup rest) := tup1 hlim
          rw [← e0]
          exact (eo_cb' rc_tuple (ea_cons (eo_slice (eo_var rfl (rW.sm sQ)) (ep_of eo_int) ep_no) ea_nil))
        · intro B1 H1 sQ
          have e0 : (iterO U.iter (slO (some (U.lst (w0 :: rest))) (ptO (some (U.int 1))) (some none))) = some rest := it1
          rw [← e0]
          exact (ei_any (eo_slice (eo_var rfl (rW.sm sQ)) (ep_of eo_int) ep_no))
      · cases hM
    · cases hM
/-! Plain.links -/
abbrev s_Plain_links : Stmt := inClass (top 13) 2
abbrev N_Plain_links : List Str := ["self", "name", "origin"]
theorem sc_Plain_links : FnScope N_Plain_links ["self"] (defScope s_Plain_links) := ⟨rfl, rfl, rfl, by decide +kernel, rfl, by decide +kernel, by decide +kernel⟩
def m_Plain_links (p0 : U) : Option U := (compOO (fun u4 => (some true)) (fun u4 => (iterO U.iter (op2 getV (op1 (fldV 0 "origins") (some p0)) (some u4)))) (fun u4 u7 => (some true)) (fun u4 u7 => (tupO (consO (some u7) (consO (some u4) (some []))))) (iterO U.iter (op1 (fldV 0 "origins") (some p0))))
theorem ok_Plain_links (T : Tx w K mg a d) : FnOk P w K mg base CX0 1 (a 1002) (d 1002) ["self"] (spU (a1 m_Plain_links)) := by
  refine T.f_Plain_links.ok sc_Plain_links (fun vs H Q E h => ?_) (fun cdv A outer s H vs Q E hr h => ?_)
  · obtain ⟨B, p0, vp0, r, rfl, _⟩ := sp1 h
    rfl
  · obtain ⟨B, p0, vp0, r, rfl, sB, rp0, hM, k⟩ := sp1 h
    have nd := sc_Plain_links.nd
    refine ⟨_, (pss_cons (ps_ret (pe_lc2 (own := [("name", 1), ("origin", 2)]) (vs1 := [2]) (g := gName 1) (g1 := gName 2) (by rfl) nd (pi_anyK (K := K) rfl (pe_fldK (K := K) rfl (pv 0))) (blkOk_by (own := [("name", 1), ("origin", 2)]) (N := N_Plain_links) (sc := defScope s_Plain_links) (by decide +kernel)) (by decide) (fun _ _ _ _ _ => pg_name (i := 1) nd rfl (Or.inl rfl)) (fun _ _ _ _ _ => pts_nil) (fun _ _ _ _ _ => (pi_anyK (K := K) rfl (pe_ix (ix_anyK (K := K) rfl hr.units) (pe_fldK (K := K) rfl (pv 0)) (pv 1) (fun _ _ => rfl)))) (fun _ _ _ _ _ => pg_name (i := 2) nd rfl (Or.inl rfl)) (fun _ _ _ _ _ => pts_nil) (fun _ _ _ _ _ => (pe_tup (pa_cons (pv 2) (pa_cons (pv 1) pa_nil)))))) pss_nil), ?_⟩
    exact (q_ret (eo_lc2 (ei_any (eo_fld T.cl_Plain T.n_Plain_origins (eo_var rfl rp0))) (fun _ => rfl) (fun _ _ => rfl) (fun u4 v5 B2 H3 g1 r6 => et_yes) (fun u4 v5 B2 H3 g1 r6 => (ei_any (eo_op2 rv_get (eo_fld T.cl_Plain T.n_Plain_origins (eo_var rfl (rp0.upA g1))) (eo_var rfl r6)))) (fun u4 v5 u7 v8 B2 H3 g1 r6 r9 => et_yes) (fun u4 v5 u7 v8 B2 H3 g1 r6 r9 => (eo_tup (ea_cons (eo_var rfl r9) (ea_cons (eo_var rfl r6) ea_nil))))) hM (Go.refl sB) k)
/-! Plain.inner -/
abbrev s_Plain_inner : Stmt := inClass (top 13) 3
abbrev N_Plain_inner : List Str := ["self", "name"]
theorem sc_Plain_inner : FnScope N_Plain_inner ["self"] (defScope s_Plain_inner) := ⟨rfl, rfl, rfl, by decide +kernel, rfl, by decide +kernel, by decide +kernel⟩
def m_Plain_inner (p0 : U) : Option U := (compO (fun u4 => (testO (op2 gtV (callO lenV (consO (op2 getV (op1 (fldV 0 "made") (some p0)) (some u4)) (some []))) (some (U.int 0))))) (fun u4 => (some u4)) (iterO U.iter (op1 (fldV 0 "origins") (some p0))))
theorem ok_Plain_inner (T : Tx w K mg a d) : FnOk P w K mg base CX0 1 (a 1003) (d 1003) ["self"] (spU (a1 m_Plain_inner)) := by
  refine T.f_Plain_inner.ok sc_Plain_inner (fun vs H Q E h => ?_) (fun cdv A outer s H vs Q E hr h => ?_)
  · obtain ⟨B, p0, vp0, r, rfl, _⟩ := sp1 h
    rfl
  · obtain ⟨B, p0, vp0, r, rfl, sB, rp0, hM, k⟩ := sp1 h
    have nd := sc_Plain_inner.nd
    refine ⟨_, (pss_cons (ps_ret (pe_lc (own := [("name", 1)]) (g := gName 1) (by rfl) nd (pi_anyK (K := K) rfl (pe_fldK (K := K) rfl (pv 0))) (blkOk_by (own := [("name", 1)]) (N := N_Plain_inner) (sc := defScope s_Plain_inner) (by decide +kernel)) (fun _ _ _ _ _ => pg_name (i := 1) nd rfl (Or.inl rfl)) (fun _ _ _ _ _ => (pts_one (pt_cmpR op_gt (pe_callB (call_lenK (K := K) rfl) (by rfl) T.b_len bb_len (pa_cons (pe_ix (ix_anyK (K := K) rfl hr.units) (pe_fldK (K := K) rfl (pv 0)) (pv 1) (fun _ _ => rfl)) pa_nil)) pe_int (nomark _)))) (fun _ _ _ _ _ => (pv 1)))) pss_nil), ?_⟩
    exact (q_ret (eo_lc (ei_any (eo_fld T.cl_Plain T.n_Plain_origins (eo_var rfl rp0))) (fun _ => rfl) (fun u4 v5 B2 H3 g1 r6 => (et_test (eo_op2 rv_gt (eo_cb' rc_len (ea_cons (eo_op2 rv_get (eo_fld T.cl_Plain T.n_Plain_made (eo_var rfl (rp0.upA g1))) (eo_var rfl r6)) ea_nil)) eo_int))) (fun u4 v5 B2 H3 g1 r6 => (eo_var rfl r6))) hM (Go.refl sB) k)
/-! plain_of -/
abbrev s_plain_of : Stmt := top 14
abbrev N_plain_of : List Str := ["value", "found", "part"]
def m_plain_of (p0 : U) : Option U := ((notO (testO (isO isStrB (some p0))))).bind fun nb => if nb = true then some .non else ((iterO U.iter (op2 splitV (some p0) (some (U.str "; "))))).bind fun parts => plL m_Plain_put parts [] []
theorem sc_plain_of : FnScope N_plain_of ["value"] (defScope s_plain_of) := ⟨rfl, rfl, rfl, by decide +kernel, rfl, by decide +kernel, by decide +kernel⟩
theorem ok_plain_of (T : Tx w K mg a d) : FnOk P w K mg base CX0 4 (a 14) (d 14) ["value"] (spU (a1 m_plain_of)) := by
  refine T.f_plain_of.ok sc_plain_of (fun vs H Q E h => ?_) (fun cdv A outer s H vs Q E hr h => ?_)
  · obtain ⟨B, p0, vp0, r, rfl, _⟩ := sp1 h
    rfl
  · obtain ⟨B, p0, vp0, r, rfl, sB, rp0, hM, k⟩ := sp1 h
    have nd := sc_plain_of.nd
    obtain ⟨nb, enb, hM⟩ := bind_some hM
    refine ⟨_, (pss_cons (ps_if (pt_not (pt_val (pe_callB (call_isiKK (K := K) rfl) (by rfl) T.b_isinstance bb_isinstance (pa_cons (pv 0) (pa_cons (pe_bltn (v := .ty "str") (by rfl) T.b_str bb_str rfl) pa_nil))))) (pss_cons (ps_ret pe_non) pss_nil) pss_nil) (pss_cons (ps_set (i := 1) nd rfl (Or.inl rfl) (pe_make0 T.mk_Plain (ok_init T) (hr.mono (by decide)) (by rfl) T.g_Plain T.bd_Plain___init__ .nil pass0)) (pss_cons (ps_for PassesOwn.never rfl (pi_anyK (K := K) rfl (pe_split (pv 0) pe_str)) (pg_name (i := 2) nd rfl (Or.inl rfl)) (pss_cons (ps_if (pt_not (pt_val (pe_meth (pv 1) T.cl_Plain T.mt_Plain_put (ok_put T) (hr.mono (by decide)) T.bd_Plain_put .nil pass0 (pa_cons (pe_split (pv 2) pe_str) pa_nil)))) (pss_cons (ps_ret pe_non) pss_nil) pss_nil) pss_nil)) (pss_cons (ps_ret (pe_frzA (pe_frzA (pv 1)))) pss_nil)))), ?_⟩
    cases nb with
    | true =>
      refine plainOf_reads (nb := true) (parts := []) sB (by rw [← enb]; exact (et_not (et_B (eo_isStr (eo_var rfl rp0))))) (fun _ => (show some U.non = some r from hM).symm) (fun z => by cases z) (fun f part pv0 B1 H1 rq => (eo_split (eo_var rfl rq) eo_str)) (fun z => by cases z) k
    | false =>
      obtain ⟨parts, ep, hM⟩ := bind_some (show ((iterO U.iter (op2 splitV (some p0) (some (U.str "; "))))).bind (fun parts => plL m_Plain_put parts [] []) = some r from hM)
      refine plainOf_reads (nb := false) (parts := parts) sB (by rw [← enb]; exact (et_not (et_B (eo_isStr (eo_var rfl rp0))))) (fun z => by cases z) (fun _ f B1 H1 sQ => by rw [← ep]; exact (ei_any (eo_split (eo_var rfl (rp0.sm sQ)) eo_str))) (fun f part pv0 B1 H1 rq => (eo_split (eo_var rfl rq) eo_str)) (fun _ => hM) k
/-! is_lot -/
abbrev s_is_lot : Stmt := top 22
abbrev N_is_lot : List Str := ["plain", "value", "name"]
theorem sc_is_lot : FnScope N_is_lot ["plain", "value"] (defScope s_is_lot) := ⟨rfl, rfl, rfl, by decide +kernel, rfl, by decide +kernel, by decide +kernel⟩
def m_is_lot (p0 : U) (p1 : U) : Option U := (ifO (orO (notO (testO (isO isTupB (some p1)))) (notO (testO (callO (c1 allV) (consO (compO (fun u4 => (some true)) (fun u4 => (isO isStrB (some u4))) (iterO U.iter (some p1))) (some [])))))) (some (U.bl false)) (op2 eqV2 (callO (c1 listB) (consO (some p1) (some []))) (compO (fun u20 => (testO (op2 inV2 (some u20) (some p1)))) (fun u20 => (some u20)) (iterO U.iter (methO 0 "inner" (a1 m_Plain_inner) (some p0) (some []))))))
theorem ok_is_lot (T : Tx w K mg a d) : FnOk P w K mg base CX0 2 (a 22) (d 22) ["plain", "value"] (spU (a2 m_is_lot)) := by
  refine T.f_is_lot.ok sc_is_lot (fun vs H Q E h => ?_) (fun cdv A outer s H vs Q E hr h => ?_)
  · obtain ⟨B, p0, p1, vp0, vp1, r, rfl, _⟩ := sp2 h
    rfl
  · obtain ⟨B, p0, p1, vp0, vp1, r, rfl, sB, rp0, rp1, hM, k⟩ := sp2 h
    have nd := sc_is_lot.nd
    refine ⟨_, (pss_cons (ps_if (PW.pt (pw_or (pt_not (pt_val (pe_callB (call_isiKK (K := K) rfl) (by rfl) T.b_isinstance bb_isinstance (pa_cons (pv 1) (pa_cons (pe_bltn (v := .ty "tuple") (by rfl) T.b_tuple bb_tuple rfl) pa_nil))))) (pw_or1 (pt_not (pt_val (pe_callB (cr_allK (K := K) rfl rfl) (by rfl) T.b_all bb_all (pa_cons (pe_lc (own := [("name", 2)]) (g := gName 2) (tt := tYes) (by rfl) nd (pi_anyK (K := K) rfl (pv 1)) (blkOk_by (own := [("name", 2)]) (N := N_is_lot) (sc := defScope s_is_lot) (by decide +kernel)) (fun _ _ _ _ _ => pg_name (i := 2) nd rfl (Or.inl rfl)) (fun _ _ _ _ _ => pts_nil) (fun _ _ _ _ _ => (pe_callB (call_isiKK (K := K) rfl) (by rfl) T.b_isinstance bb_isinstance (pa_cons (pv 2) (pa_cons (pe_bltn (v := .ty "str") (by rfl) T.b_str bb_str rfl) pa_nil))))) pa_nil))))))) (pss_cons (ps_ret pe_bl) pss_nil) pss_nil) (pss_cons (ps_ret (pe_cmpR (op_eqU hr.units) (pe_callTy (call_listK (K := K) rfl rfl) (by rfl) T.b_list bb_list (pa_cons (pv 1) pa_nil)) (pe_lc (own := [("name", 2)]) (g := gName 2) (by rfl) nd (pi_anyK (K := K) rfl (pe_meth0 (pv 0) T.cl_Plain T.mt_Plain_inner (ok_Plain_inner T) (hr.mono (by decide)) T.bd_Plain_inner .nil pass0)) (blkOk_by (own := [("name", 2)]) (N := N_is_lot) (sc := defScope s_is_lot) (by decide +kernel)) (fun _ _ _ _ _ => pg_name (i := 2) nd rfl (Or.inl rfl)) (fun _ _ _ _ _ => (pts_one (pt_cmpR (op_inA hr.units) (pv 2) (pv 1) (by rfl)))) (fun _ _ _ _ _ => (pv 2))) (nomark _))) pss_nil)), ?_⟩
    exact (q_if sB (et_or (et_not (et_B (eo_isTup (eo_var rfl rp1)))) (et_not (et_B (eo_cb' rc_all (ea_cons (eo_lc (ei_any (eo_var rfl rp1)) (fun _ => rfl) (fun u4 v5 B2 H3 g1 r6 => et_yes) (fun u4 v5 B2 H3 g1 r6 => (eo_isStr (eo_var rfl r6)))) ea_nil))))) hM (fun e13 h9 B7 H8 g15 => (q_ret eo_bl h9 ((Go.refl sB).trans g15) k)) (fun e14 h12 B10 H11 g16 => (q_ret (eo_op2 rv_eq (eo_cb' rc_listK (ea_cons (eo_var rfl (rp1.up g16)) ea_nil)) (eo_lc (ei_any (eo_meth (eo_var rfl (rp0.up g16)) ea_nil)) (fun _ => rfl) (fun u20 v21 B18 H19 g17 r22 => (et_test (eo_op2 rv_in (eo_var rfl r22) (eo_var rfl ((rp1.up g16).upA g17))))) (fun u20 v21 B18 H19 g17 r22 => (eo_var rfl r22)))) h12 ((Go.refl sB).trans g16) k)))
/-! made_of -/
abbrev s_made_of : Stmt := top 23
abbrev N_made_of : List Str := ["plain", "lot", "link", "found", "name", "origin"]
def m_made_of_l1 (p0 : U) (p1 : U) (p2 : U) (kL8 : SM U) : List U → SM U
  | [] => kL8
  | u25 :: l26 => (ifS (pureS (testO (callO (c1 anyV) (consO (compO (fun u42 => (some true)) (fun u42 => (andV (op2 inV2 (some u42) (some p1)) (op2 neV2 (tupO (consO (some u42) (consO (some u25) (some [])))) (some p2)))) (iterO U.iter (op2 getV (op1 (fldV 0 "origins") (some p0)) (some u25)))) (some []))))) (bindS (bindS (pureS (some u25)) fun y => appS 0 y) fun _ => (m_made_of_l1 p0 p1 p2 kL8 l26)) (m_made_of_l1 p0 p1 p2 kL8 l26))
theorem sc_made_of : FnScope N_made_of ["plain", "lot", "link"] (defScope s_made_of) := ⟨rfl, rfl, rfl, by decide +kernel, rfl, by decide +kernel, by decide +kernel⟩
def m_made_ofS (p0 : U) (p1 : U) (p2 : U) : SM U := (bindS (nlstS (pureS (some []))) fun u => addS u (withK (takeS 0) fun kL8 => (bindS (pureS (iterO U.iter (op1 (fldV 0 "origins") (some p0)))) fun xs11 => m_made_of_l1 p0 p1 p2 kL8 xs11)))
def m_made_of (p0 : U) (p1 : U) (p2 : U) : Option U := runS (m_made_ofS p0 p1 p2)
theorem ok_made_of (T : Tx w K mg a d) : FnOk P w K mg base CX0 1 (a 23) (d 23) ["plain", "lot", "link"] (spU (a3 m_made_of)) := by
  refine T.f_made_of.ok sc_made_of (fun vs H Q E h => ?_) (fun cdv A outer s H vs Q E hr h => ?_)
  · obtain ⟨B, p0, p1, p2, vp0, vp1, vp2, r, rfl, _⟩ := sp3 h
    rfl
  · obtain ⟨B, p0, p1, p2, vp0, vp1, vp2, r, rfl, sB, rp0, rp1, rp2, hM, k⟩ := sp3 h
    have nd := sc_made_of.nd
    obtain ⟨R, hM2, rfl⟩ := runS_some hM
    clear hM
    have k := fun v B2 H2 ps2 (W : Wh (bsU B H) B2 H2 ps2 R.2) r => k v B2 H2 W.pure r
    refine ⟨_, (pss_cons (ps_set (i := 3) nd rfl (Or.inl rfl) (pe_lst pa_nil)) (pss_cons (ps_for PassesOwn.never rfl (pi_anyK (K := K) rfl (pe_fldK (K := K) rfl (pv 0))) (pg_name (i := 4) nd rfl (Or.inr rfl)) (pss_cons (ps_if (pt_val (pe_callB (cr_anyK (K := K) rfl rfl) (by rfl) T.b_any bb_any (pa_cons (pe_lc (own := [("origin", 5)]) (g := gName 5) (tt := tYes) (by rfl) nd (pi_anyK (K := K) rfl (pe_ix (ix_anyK (K := K) rfl hr.units) (pe_fldK (K := K) rfl (pv 0)) (pv 4) (fun _ _ => rfl))) (blkOk_by (own := [("origin", 5)]) (N := N_made_of) (sc := defScope s_made_of) (by decide +kernel)) (fun _ _ _ _ _ => pg_name (i := 5) nd rfl (Or.inl rfl)) (fun _ _ _ _ _ => pts_nil) (fun _ _ _ _ _ => (pe_and (pe_cmpR (op_inA hr.units) (pv 5) (pv 1) (by rfl)) (pe_one (pe_cmpR (op_neU hr.units) (pe_tup (pa_cons (pv 5) (pa_cons (pv 4) pa_nil))) (pv 2) (nomark _)))))) pa_nil))) (pss_cons (ps_expr (pe_appK (K := K) rfl (pv 3) (pa_cons (pv 4) pa_nil))) pss_nil) pss_nil) pss_nil)) (pss_cons (ps_ret (pv 3)) pss_nil))), ?_⟩
    exact (q_newS (wh_pure sB) (en_lst (eas_of (H := H) ea_nil)) hM2 fun ad1 B2 H3 us4 W5 s6 h7 => (q_withS h7 fun kL8 ekL9 h10 => q_forS W5 (eis_of (H := H) (ei_any (eo_fld T.cl_Plain T.n_Plain_origins (eo_var rfl (rp0.sm s6))))) h10 fun xs11 B12 H13 us15 W16 s17 h14 => ⟨fun l18 sg19 B20 H21 => ∃ (o22 : Option V) (o23 : Option V) (us24 : List U), sg19 = [some vp0, some vp1, some vp2, some (.ref ad1), o22, o23] ∧ Same B12 B20 ∧ Wh (bsU B H) B20 H21 [ad1] us24 ∧ m_made_of_l1 p0 p1 p2 kL8 l18 us24 = some R, ⟨_, _, us15, rfl, Same.refl _, W16, h14⟩, fun _ _ _ _ ⟨_, _, _, _, sX, WX, _⟩ => ⟨sX, WX.s⟩, fun u25 l26 v27 sg73 B28 H29 B30 H31 hR g32 r33 => (by obtain ⟨_, _, us37, rfl, s35, W38, h36⟩ := hR; exact (q_ifS (W38.go g32) (ets_of (H := H) (et_B (eo_cb' rc_any (ea_cons (eo_lc (ei_any (eo_op2 rv_get (eo_fld T.cl_Plain T.n_Plain_origins (eo_var rfl ((((rp0.sm s6).sm s17).sm s35).up g32))) (eo_var rfl r33))) (fun _ => rfl) (fun u42 v43 B40 H41 g39 r44 => et_yes) (fun u42 v43 B40 H41 g39 r44 => (eo_and (eo_op2 rv_in (eo_var rfl r44) (eo_var rfl (((((rp1.sm s6).sm s17).sm s35).up g32).upA g39))) (eo_op2 rv_ne (eo_tup (ea_cons (eo_var rfl r44) (ea_cons (eo_var rfl (r33.upA g39)) ea_nil))) (eo_var rfl (((((rp2.sm s6).sm s17).sm s35).up g32).upA g39)))))) ea_nil)))) h36 (fun B45 H46 us51 W52 s53 h47 => (q_exprS W52 (es_app (j := 0) rfl rfl (es_of (H := H) (eo_var rfl (r33.sm s53))) lk_of) h47 fun x57 B58 H59 us60 W61 s62 h63 => ⟨_, _, _, _, rfl, (((s35.trans g32.b).trans s53).trans s62), W61, h63⟩)) (fun B48 H49 us54 W55 s56 h50 => ⟨_, _, _, _, rfl, ((s35.trans g32.b).trans s56), W55, h50⟩))), fun sg69 B70 H71 hR => (by obtain ⟨_, _, us67, rfl, s65, W68, h66⟩ := hR; have h72 : kL8 us67 = some R := h66; subst ekL9; exact (q_retS W68 (es_take (j := 0) rfl rfl) h72 k))⟩))
/-! shows_lack -/
abbrev s_shows_lack : Stmt := top 24
abbrev N_shows_lack : List Str := ["plain", "value"]
theorem sc_shows_lack : FnScope N_shows_lack ["plain", "value"] (defScope s_shows_lack) := ⟨rfl, rfl, rfl, by decide +kernel, rfl, by decide +kernel, by decide +kernel⟩
def m_shows_lack (p0 : U) (p1 : U) : Option U := (andV (callO (a2 m_is_lot) (consO (some p0) (consO (some p1) (some [])))) (op2 ltV (callO lenV (consO (callO (a3 m_made_of) (consO (some p0) (consO (some p1) (consO (some U.non) (some []))))) (some []))) (callO lenV (consO (some p1) (some [])))))
theorem ok_shows_lack (T : Tx w K mg a d) : FnOk P w K mg base CX0 3 (a 24) (d 24) ["plain", "value"] (spU (a2 m_shows_lack)) := by
  refine T.f_shows_lack.ok sc_shows_lack (fun vs H Q E h => ?_) (fun cdv A outer s H vs Q E hr h => ?_)
  · obtain ⟨B, p0, p1, vp0, vp1, r, rfl, _⟩ := sp2 h
    rfl
  · obtain ⟨B, p0, p1, vp0, vp1, r, rfl, sB, rp0, rp1, hM, k⟩ := sp2 h
    have nd := sc_shows_lack.nd
    refine ⟨_, (pss_cons (ps_ret (pe_and (pe_call (ok_is_lot T) (hr.mono (by decide)) (by rfl) T.g_is_lot T.f_is_lot.kp T.bd_is_lot .nil pass0 (pa_cons (pv 0) (pa_cons (pv 1) pa_nil))) (pe_one (pe_cmpR op_lt (pe_callB (call_lenK (K := K) rfl) (by rfl) T.b_len bb_len (pa_cons (pe_call (ok_made_of T) (hr.mono (by decide)) (by rfl) T.g_made_of T.f_made_of.kp T.bd_made_of .nil pass0 (pa_cons (pv 0) (pa_cons (pv 1) (pa_cons pe_non pa_nil)))) pa_nil)) (pe_callB (call_lenK (K := K) rfl) (by rfl) T.b_len bb_len (pa_cons (pv 1) pa_nil)) (nomark _))))) pss_nil), ?_⟩
    exact (q_ret (eo_and (eo_call (ea_cons (eo_var rfl rp0) (ea_cons (eo_var rfl rp1) ea_nil))) (eo_op2 rv_lt (eo_cb' rc_len (ea_cons (eo_call (ea_cons (eo_var rfl rp0) (ea_cons (eo_var rfl rp1) (ea_cons eo_non ea_nil)))) ea_nil)) (eo_cb' rc_len (ea_cons (eo_var rfl rp1) ea_nil)))) hM (Go.refl sB) k)
/-! accepts -/
abbrev s_accepts : Stmt := top 32
abbrev N_accepts : List Str := ["claim", "certificate", "plain"]
theorem sc_accepts : FnScope N_accepts ["claim", "certificate"] (defScope s_accepts) := ⟨rfl, rfl, rfl, by decide +kernel, rfl, by decide +kernel, by decide +kernel⟩
def m_accepts (p0 : U) (p1 : U) : Option U := (ifO (orO (notO (testO (isO isTupB (some p0)))) (orO (testO (op2 eqV2 (some p0) (tupO (some [])))) (notO (testO (isO isStrB (op2 getV (some p0) (some (U.int 0)))))))) (some (U.bl false)) (ifO (testO (op2 neV2 (op2 (kgetV tab_SIZES) (op2 getV (some p0) (some (U.int 0))) (some (U.int 0))) (callO lenV (consO (some p0) (some []))))) (some (U.bl false)) ((callO (a1 m_plain_of) (consO (op2 getV (some p0) (some (U.int 1))) (some []))).bind fun x21 => (ifO (testO (op2 isV (some x21) (some U.non))) (some (U.bl false)) (ifO (testO (op2 eqV2 (op2 getV (some p0) (some (U.int 0))) (some (U.str "has")))) none (ifO (testO (op2 eqV2 (op2 getV (some p0) (some (U.int 0))) (some (U.str "lacks")))) (callO (a2 m_shows_lack) (consO (some x21) (consO (some p1) (some [])))) (ifO (testO (op2 eqV2 (op2 getV (some p0) (some (U.int 0))) (some (U.str "count")))) none (ifO (testO (op2 eqV2 (op2 getV (some p0) (some (U.int 0))) (some (U.str "best")))) none none))))))))
theorem ok_accepts (T : Tx w K mg a d) : FnOk P w K mg base CX0 5 (a 32) (d 32) ["claim", "certificate"] (spU (a2 m_accepts)) := by
  refine T.f_accepts.ok sc_accepts (fun vs H Q E h => ?_) (fun cdv A outer s H vs Q E hr h => ?_)
  · obtain ⟨B, p0, p1, vp0, vp1, r, rfl, _⟩ := sp2 h
    rfl
  · obtain ⟨B, p0, p1, vp0, vp1, r, rfl, sB, rp0, rp1, hM, k⟩ := sp2 h
    have nd := sc_accepts.nd
    refine ⟨_, (pss_cons (ps_if (PW.pt (pw_or (pt_not (pt_val (pe_callB (call_isiKK (K := K) rfl) (by rfl) T.b_isinstance bb_isinstance (pa_cons (pv 0) (pa_cons (pe_bltn (v := .ty "tuple") (by rfl) T.b_tuple bb_tuple rfl) pa_nil))))) (pw_or (pt_cmpR (op_eqU hr.units) (pv 0) (pe_tup pa_nil) (nomark _)) (pw_or1 (pt_not (pt_val (pe_callB (call_isiKK (K := K) rfl) (by rfl) T.b_isinstance bb_isinstance (pa_cons (pe_ix (ix_anyK (K := K) rfl hr.units) (pv 0) pe_int (fun _ _ => rfl)) (pa_cons (pe_bltn (v := .ty "str") (by rfl) T.b_str bb_str rfl) pa_nil))))))))) (pss_cons (ps_ret pe_bl) pss_nil) pss_nil) (pss_cons (ps_if (pt_cmpR (op_neU hr.units) (pe_kget T.kd_SIZES.choose_spec.choose_spec (pe_glob (v := .ref (a 2016)) (by rfl) T.g_SIZES rfl) (pe_ix (ix_anyK (K := K) rfl hr.units) (pv 0) pe_int (fun _ _ => rfl)) pe_int ⟨rfl, rfl, rfl, rfl⟩) (pe_callB (call_lenK (K := K) rfl) (by rfl) T.b_len bb_len (pa_cons (pv 0) pa_nil)) (nomark _)) (pss_cons (ps_ret pe_bl) pss_nil) pss_nil) (pss_cons (ps_set (i := 2) nd rfl (Or.inl rfl) (pe_call (ok_plain_of T) (hr.mono (by decide)) (by rfl) T.g_plain_of T.f_plain_of.kp T.bd_plain_of .nil pass0 (pa_cons (pe_ix (ix_anyK (K := K) rfl hr.units) (pv 0) pe_int (fun _ _ => rfl)) pa_nil))) (pss_cons (ps_if (pt_cmpR op_isU (pv 2) pe_non (nomark _)) (pss_cons (ps_ret pe_bl) pss_nil) pss_nil) (pss_cons (ps_if (pt_cmpR (op_eqU hr.units) (pe_ix (ix_anyK (K := K) rfl hr.units) (pv 0) pe_int (fun _ _ => rfl)) pe_str (nomark _)) (pss_cons ps_never pss_nil) pss_nil) (pss_cons (ps_if (pt_cmpR (op_eqU hr.units) (pe_ix (ix_anyK (K := K) rfl hr.units) (pv 0) pe_int (fun _ _ => rfl)) pe_str (nomark _)) (pss_cons (ps_ret (pe_call (ok_shows_lack T) (hr.mono (by decide)) (by rfl) T.g_shows_lack T.f_shows_lack.kp T.bd_shows_lack .nil pass0 (pa_cons (pv 2) (pa_cons (pv 1) pa_nil)))) pss_nil) pss_nil) (pss_cons (ps_if (pt_cmpR (op_eqU hr.units) (pe_ix (ix_anyK (K := K) rfl hr.units) (pv 0) pe_int (fun _ _ => rfl)) pe_str (nomark _)) (pss_cons ps_never pss_nil) pss_nil) (pss_cons (ps_if (pt_cmpR (op_eqU hr.units) (pe_ix (ix_anyK (K := K) rfl hr.units) (pv 0) pe_int (fun _ _ => rfl)) pe_str (nomark _)) (pss_cons ps_never pss_nil) pss_nil) (pss_cons ps_never pss_nil))))))))), ?_⟩
    exact (q_if sB (et_or (et_not (et_B (eo_isTup (eo_var rfl rp0)))) (et_or (et_test (eo_op2 rv_eq (eo_var rfl rp0) (eo_tup ea_nil))) (et_not (et_B (eo_isStr (eo_op2 rv_get (eo_var rfl rp0) eo_int)))))) hM (fun e7 h3 B1 H2 g9 => (q_ret eo_bl h3 ((Go.refl sB).trans g9) k)) (fun e8 h6 B4 H5 g10 => (q_if g10.bh (et_test (eo_op2 rv_ne (eo_kget T.kt_SIZES (eo_op2 rv_get (eo_var rfl (rp0.up g10)) eo_int) eo_int) (eo_cb' rc_len (ea_cons (eo_var rfl (rp0.up g10)) ea_nil)))) h6 (fun e17 h13 B11 H12 g19 => (q_ret eo_bl h13 (((Go.refl sB).trans g10).trans g19) k)) (fun e18 h16 B14 H15 g20 => (q_asg g20.bh (eo_call (ea_cons (eo_op2 rv_get (eo_var rfl ((rp0.up g10).up g20)) eo_int) ea_nil)) h16 fun x21 v22 B23 H24 g27 r26 h25 => (q_if g27.bh (et_test (eo_op2 rv_is (eo_var rfl r26) eo_non)) h25 (fun e34 h30 B28 H29 g36 => (q_ret eo_bl h30 (((((Go.refl sB).trans g10).trans g20).trans g27).trans g36) k)) (fun e35 h33 B31 H32 g37 => (q_if g37.bh (et_test (eo_op2 rv_eq (eo_op2 rv_get (eo_var rfl ((((rp0.up g10).up g20).up g27).up g37)) eo_int) eo_str)) h33 (fun e44 h40 B38 H39 g46 => (nomatch h40)) (fun e45 h43 B41 H42 g47 => (q_if g47.bh (et_test (eo_op2 rv_eq (eo_op2 rv_get (eo_var rfl (((((rp0.up g10).up g20).up g27).up g37).up g47)) eo_int) eo_str)) h43 (fun e54 h50 B48 H49 g56 => (q_ret (eo_call (ea_cons (eo_var rfl (((r26.up g37).up g47).up g56)) (ea_cons (eo_var rfl ((((((rp1.up g10).up g20).up g27).up g37).up g47).up g56)) ea_nil))) h50 (((((((Go.refl sB).trans g10).trans g20).trans g27).trans g37).trans g47).trans g56) k)) (fun e55 h53 B51 H52 g57 => (q_if g57.bh (et_test (eo_op2 rv_eq (eo_op2 rv_get (eo_var rfl ((((((rp0.up g10).up g20).up g27).up g37).up g47).up g57)) eo_int) eo_str)) h53 (fun e64 h60 B58 H59 g66 => (nomatch h60)) (fun e65 h63 B61 H62 g67 => (q_if g67.bh (et_test (eo_op2 rv_eq (eo_op2 rv_get (eo_var rfl (((((((rp0.up g10).up g20).up g27).up g37).up g47).up g57).up g67)) eo_int) eo_str)) h63 (fun e74 h70 B68 H69 g76 => (nomatch h70)) (fun e75 h73 B71 H72 g77 => (nomatch h73))))))))))))))))
/-! _law_urn -/
abbrev s_law_urn : Stmt := top 34
abbrev N_law_urn : List Str := ["_law_script", "_law_turn", "_law_state", "_law_each", "_law_own"]
def m_law_urn_l1 (p0 : U) (p1 : U) (kL10 : U → SM U) : List U → U → SM U
  | [], x58 => kL10 x58
  | u29 :: l30, x41 => (bindS (pureS (op2 modV (callO (c1 intV) (consO (op2 addV (op2 addV (op2 mulV (some x41) (some (U.int 48889))) (op2 mulV (callO (c1 intV) (consO (some u29) (some []))) (some (U.int 19)))) (some p1)) (some []))) (some (U.int 2147482661)))) fun x46 => (m_law_urn_l1 p0 p1 kL10 l30 (x46)))
theorem sc_law_urn : FnScope N_law_urn ["_law_script", "_law_turn"] (defScope s_law_urn) := ⟨rfl, rfl, rfl, by decide +kernel, rfl, by decide +kernel, by decide +kernel⟩
def m_law_urnS (p0 : U) (p1 : U) : SM U := (bindS (pureS (op2 addV (some (U.int 271828)) (op2 mulV (some (U.int 40961)) (some p1)))) fun x1 => (withK (fun x58 => (bindS (pureS (ifO (testO (op2 ltV (some p1) (callO lenV (consO (some p0) (some []))))) (callO (c1 intV) (consO (op2 getV (some p0) (some p1)) (some []))) (some x58))) fun x67 => (nlstS (pureS (consO (ifO (orO (testO (op2 ltV (some x67) (some (U.int 0)))) (testO (op2 geV (some x67) (op2 powV (some (U.int 10)) (some (U.int 17)))))) (callO (c1 absU) (consO (some x67) (some []))) (some (U.int 0))) (consO (op2 modV (callO (c1 intV) (consO (op2 addV (some x58) (op2 mulV (some x67) (some (U.int 31)))) (some []))) (some (U.int 2147482661))) (consO (some (U.int 0)) (some [])))))))) fun kL10 => (bindS (pureS (iterO U.iter (slO (some p0) (some none) (ptO (some (U.int 7)))))) fun xs13 => m_law_urn_l1 p0 p1 kL10 xs13 (x1))))
def m_law_urn (p0 : U) (p1 : U) : Option U := runS (m_law_urnS p0 p1)
theorem ok_law_urn (T : Tx w K mg a d) : FnOk P w K mg base CX0 1 (a 34) (d 34) ["_law_script", "_law_turn"] (spN (a2 m_law_urn)) := by
  refine T.f_law_urn.ok sc_law_urn (fun vs H Q E h => ?_) (fun cdv A outer s H vs Q E hr h => ?_)
  · obtain ⟨B, p0, p1, vp0, vp1, r, rfl, _⟩ := sn2 h
    rfl
  · obtain ⟨B, p0, p1, vp0, vp1, r, rfl, sB, rp0, rp1, hM, k⟩ := sn2 h
    have nd := sc_law_urn.nd
    obtain ⟨R, hM2, rfl⟩ := runS_some hM
    clear hM
    have k := fun p B2 H2 ps2 (W : Wh (bsU B H) B2 H2 ps2 R.2) n b o => k p B2 H2 W.pure n b o
    refine ⟨_, (pss_cons (ps_set (i := 2) nd rfl (Or.inl rfl) (pe_op (op_addK (K := K) rfl) pe_int (pe_op op_mulU pe_int (pv 1)))) (pss_cons (ps_for PassesOwn.never rfl (pi_anyK (K := K) rfl (pe_slice (sl_anyK (K := K) rfl) (pv 0) po_none (po_some pe_int))) (pg_name (i := 3) nd rfl (Or.inl rfl)) (pss_cons (ps_set (i := 2) nd rfl (Or.inl rfl) (pe_op op_mod (pe_callTy call_int1 (by rfl) T.b_int bb_int (pa_cons (pe_op (op_addK (K := K) rfl) (pe_op (op_addK (K := K) rfl) (pe_op op_mulU (pv 2) pe_int) (pe_op op_mulU (pe_callTy call_int1 (by rfl) T.b_int bb_int (pa_cons (pv 3) pa_nil)) pe_int)) (pv 1)) pa_nil)) pe_int)) pss_nil)) (pss_cons (ps_set (i := 4) nd rfl (Or.inl rfl) (pe_ifExp (pt_cmpR op_lt (pv 1) (pe_callB (call_lenK (K := K) rfl) (by rfl) T.b_len bb_len (pa_cons (pv 0) pa_nil)) (nomark _)) (pe_callTy call_int1 (by rfl) T.b_int bb_int (pa_cons (pe_ix (ix_anyK (K := K) rfl hr.units) (pv 0) (pv 1) (fun _ _ => rfl)) pa_nil)) (pv 2))) (pss_cons (ps_ret (pe_lst (pa_cons (pe_ifExp (PW.pt (pw_or (pt_cmpR op_lt (pv 4) pe_int (nomark _)) (pw_or1 (pt_cmpR op_ge (pv 4) (pe_op op_pow pe_int pe_int) (nomark _))))) (pe_callB call_abs (by rfl) T.b_abs bb_abs (pa_cons (pv 4) pa_nil)) pe_int) (pa_cons (pe_op op_mod (pe_callTy call_int1 (by rfl) T.b_int bb_int (pa_cons (pe_op (op_addK (K := K) rfl) (pv 2) (pe_op op_mulU (pv 4) pe_int)) pa_nil)) pe_int) (pa_cons pe_int pa_nil))))) pss_nil)))), ?_⟩
    exact (q_asgS (wh_pure sB) (es_of (H := H) (eo_op2 rv_add eo_int (eo_op2 rv_mul eo_int (eo_var rfl rp1)))) hM2 fun x1 v2 B3 H4 us7 W8 s9 r6 h5 => (q_withS h5 fun kL10 ekL11 h12 => q_forS W8 (eis_of (H := H) (ei_any (eo_slice (eo_var rfl (rp0.sm s9)) ep_no (ep_of eo_int)))) h12 fun xs13 B14 H15 us17 W18 s19 h16 => ⟨fun l20 sg21 B22 H23 => ∃ (x24 : U) (v25 : V) (o26 : Option V) (o27 : Option V) (us28 : List U), sg21 = [some vp0, some vp1, some v25, o26, o27] ∧ Same B14 B22 ∧ Rp B22 x24 v25 ∧ Wh (bsU B H) B22 H23 [] us28 ∧ m_law_urn_l1 p0 p1 kL10 l20 x24 us28 = some R, ⟨x1, _, _, _, us17, rfl, Same.refl _, (r6.sm s19), W18, h16⟩, fun _ _ _ _ ⟨_, _, _, _, _, _, sX, _, WX, _⟩ => ⟨sX, WX.s⟩, fun u29 l30 v31 sg76 B32 H33 B34 H35 hR g36 r37 => (by obtain ⟨x41, v42, _, _, us44, rfl, s39, r43, W45, h40⟩ := hR; exact (q_asgS (W45.go g36) (es_of (H := H) (eo_op2 rv_mod (eo_cb' rc_int (ea_cons (eo_op2 rv_add (eo_op2 rv_add (eo_op2 rv_mul (eo_var rfl (r43.up g36)) eo_int) (eo_op2 rv_mul (eo_cb' rc_int (ea_cons (eo_var rfl r37) ea_nil)) eo_int)) (eo_var rfl ((((rp1.sm s9).sm s19).sm s39).up g36))) ea_nil)) eo_int)) h40 fun x46 v47 B48 H49 us52 W53 s54 r51 h50 => ⟨_, x46, _, _, _, _, rfl, ((s39.trans g36.b).trans s54), r51, W53, h50⟩)), fun sg63 B64 H65 hR => (by obtain ⟨x58, v59, _, _, us61, rfl, s56, r60, W62, h57⟩ := hR; have h66 : kL10 x58 us61 = some R := h57; subst ekL11; exact (q_asgS W62 (es_of (H := H) (eo_if (et_test (eo_op2 rv_lt (eo_var rfl (((rp1.sm s9).sm s19).sm s56)) (eo_cb' rc_len (ea_cons (eo_var rfl (((rp0.sm s9).sm s19).sm s56)) ea_nil)))) (eo_cb' rc_int (ea_cons (eo_op2 rv_get (eo_var rfl (((rp0.sm s9).sm s19).sm s56)) (eo_var rfl (((rp1.sm s9).sm s19).sm s56))) ea_nil)) (eo_var rfl r60))) h66 fun x67 v68 B69 H70 us73 W74 s75 r72 h71 => (q_retN W74 (en_lst (eas_of (H := H) (ea_cons (eo_if (et_or (et_test (eo_op2 rv_lt (eo_var rfl r72) eo_int)) (et_test (eo_op2 rv_ge (eo_var rfl r72) (eo_op2 rv_pow eo_int eo_int)))) (eo_cb' rc_abs (ea_cons (eo_var rfl r72) ea_nil)) eo_int) (ea_cons (eo_op2 rv_mod (eo_cb' rc_int (ea_cons (eo_op2 rv_add (eo_var rfl (r60.sm s75)) (eo_op2 rv_mul (eo_var rfl r72) eo_int)) ea_nil)) eo_int) (ea_cons eo_int ea_nil))))) h71 k)))⟩))
/-! _law_pull -/
abbrev s_law_pull : Stmt := top 35
abbrev N_law_pull : List Str := ["_law_urn_here", "_law_size", "_law_digit"]
theorem sc_law_pull : FnScope N_law_pull ["_law_urn_here", "_law_size"] (defScope s_law_pull) := ⟨rfl, rfl, rfl, by decide +kernel, rfl, by decide +kernel, by decide +kernel⟩
def m_law_pull (p1 : U) : SM U := (bindS (opS addV (lockO 0 fun u1 => (op2 getV (some u1) (some (U.int 2)))) (pureS (some (U.int 1)))) fun y10 => bindS (pureS (some (U.int 2))) fun k11 => bindS (setLS 0 k11 y10) fun _ => (ifS (testS (opS gtV (lockO 0 fun u12 => (op2 getV (some u12) (some (U.int 0)))) (pureS (some (U.int 0))))) (bindS (callS divmodU (consS (lockO 0 fun u27 => (op2 getV (some u27) (some (U.int 0)))) (consS (pureS (some p1)) (pureS (some []))))) fun u => unpS u fun x39 y30 => bindS (pureS (some (U.int 0))) fun k40 => bindS (setLS 0 k40 x39) fun _ => (pureS (some y30))) (bindS (opS modV (callS (c1 intV) (consS (opS addV (opS addV (opS mulV (lockO 0 fun u41 => (op2 getV (some u41) (some (U.int 1)))) (pureS (some (U.int 39409)))) (opS mulV (pureS (some (U.int 7001))) (lockO 0 fun u44 => (op2 getV (some u44) (some (U.int 2)))))) (pureS (some (U.int 9)))) (pureS (some [])))) (pureS (some (U.int 2147482661)))) fun y53 => bindS (pureS (some (U.int 1))) fun k54 => bindS (setLS 0 k54 y53) fun _ => (opS modV (callS (c1 intV) (consS (opS fdivV (lockO 0 fun u55 => (op2 getV (some u55) (some (U.int 1)))) (pureS (some (U.int 768)))) (pureS (some [])))) (pureS (some p1))))))
theorem ok_law_pull (T : Tx w K mg a d) : FnOk P w K mg base CX0 1 (a 35) (d 35) ["_law_urn_here", "_law_size"] (spS (b1 m_law_pull)) := by
  refine T.f_law_pull.ok sc_law_pull (fun vs H Q E h => ?_) (fun cdv A outer s H vs Q E hr h => ?_)
  · obtain ⟨B, p, u, p1, vp1, R, rfl, _⟩ := ss1 h
    rfl
  · obtain ⟨B, p, u, p1, vp1, R, rfl, sB, W, rp1, hM, k⟩ := ss1 h
    have nd := sc_law_pull.nd
    refine ⟨_, (pss_cons (ps_asg (pe_op (op_addK (K := K) rfl) (pe_lock (pe_ix (ix_anyK (K := K) rfl hr.units) (pv 0) pe_int (fun _ _ => rfl))) pe_int) (pg_sub (pv 0) pe_int set_list)) (pss_cons (ps_if (pt_cmpR op_gt (pe_lock (pe_ix (ix_anyK (K := K) rfl hr.units) (pv 0) pe_int (fun _ _ => rfl))) pe_int (nomark _)) (pss_cons (ps_asg (pe_callB call_divmod (by rfl) T.b_divmod bb_divmod (pa_cons (pe_lock (pe_ix (ix_anyK (K := K) rfl hr.units) (pv 0) pe_int (fun _ _ => rfl))) (pa_cons (pv 1) pa_nil))) (pg_tupK (K := K) rfl (by rfl) (pgs_cons (pg_sub (pv 0) pe_int set_list) (pgs_cons (pg_name (i := 2) nd rfl (Or.inl rfl)) pgs_nil)))) (pss_cons (ps_ret (pv 2)) pss_nil)) pss_nil) (pss_cons (ps_asg (pe_op op_mod (pe_callTy call_int1 (by rfl) T.b_int bb_int (pa_cons (pe_op (op_addK (K := K) rfl) (pe_op (op_addK (K := K) rfl) (pe_op op_mulU (pe_lock (pe_ix (ix_anyK (K := K) rfl hr.units) (pv 0) pe_int (fun _ _ => rfl))) pe_int) (pe_op op_mulU pe_int (pe_lock (pe_ix (ix_anyK (K := K) rfl hr.units) (pv 0) pe_int (fun _ _ => rfl))))) pe_int) pa_nil)) pe_int) (pg_sub (pv 0) pe_int set_list)) (pss_cons (ps_ret (pe_op op_mod (pe_callTy call_int1 (by rfl) T.b_int bb_int (pa_cons (pe_op op_fdiv (pe_lock (pe_ix (ix_anyK (K := K) rfl hr.units) (pv 0) pe_int (fun _ _ => rfl))) pe_int) pa_nil)) (pv 1))) pss_nil)))), ?_⟩
    exact (q_setL (jj := 0) W rfl rfl (es_op2 rv_add (es_lockO (j := 0) rfl fun u1 _ _ s2 r3 => (eo_op2 rv_get (eo_var rfl r3) eo_int)) (es_of (H := H) eo_int)) (es_of (H := H) eo_int) hM fun B4 H5 us6 W7 s8 h9 => (q_ifS W7 (ets_test (es_op2 rv_gt (es_lockO (j := 0) rfl fun u12 _ _ s13 r14 => (eo_op2 rv_get (eo_var rfl r14) eo_int)) (es_of (H := H) eo_int))) h9 (fun B15 H16 us21 W22 s23 h17 => (q_setTwo (jj := 0) W22 rfl rfl (es_cb rc_divmod (eas_cons (es_lockO (j := 0) rfl fun u27 _ _ s28 r29 => (eo_op2 rv_get (eo_var rfl r29) eo_int)) (eas_cons (es_of (H := H) (eo_var rfl ((rp1.sm s8).sm s23))) eas_nil))) (es_of (H := H) eo_int) h17 fun y30 v31 B32 H33 us34 W35 s36 r37 h38 => (q_retS W35 (es_of (H := H) (eo_var rfl r37)) h38 k))) (fun B18 H19 us24 W25 s26 h20 => (q_setL (jj := 0) W25 rfl rfl (es_op2 rv_mod (es_cb rc_int (eas_cons (es_op2 rv_add (es_op2 rv_add (es_op2 rv_mul (es_lockO (j := 0) rfl fun u41 _ _ s42 r43 => (eo_op2 rv_get (eo_var rfl r43) eo_int)) (es_of (H := H) eo_int)) (es_op2 rv_mul (es_of (H := H) eo_int) (es_lockO (j := 0) rfl fun u44 _ _ s45 r46 => (eo_op2 rv_get (eo_var rfl r46) eo_int)))) (es_of (H := H) eo_int)) eas_nil)) (es_of (H := H) eo_int)) (es_of (H := H) eo_int) h20 fun B47 H48 us49 W50 s51 h52 => (q_retS W50 (es_op2 rv_mod (es_cb rc_int (eas_cons (es_op2 rv_fdiv (es_lockO (j := 0) rfl fun u55 _ _ s56 r57 => (eo_op2 rv_get (eo_var rfl r57) eo_int)) (es_of (H := H) eo_int)) eas_nil)) (es_of (H := H) (eo_var rfl (((rp1.sm s8).sm s26).sm s51)))) h52 k)))))
/-! _law_of -/
abbrev s_law_of : Stmt := top 36
abbrev N_law_of : List Str := ["_law_urn_here", "_law_some"]
theorem sc_law_of : FnScope N_law_of ["_law_urn_here", "_law_some"] (defScope s_law_of) := ⟨rfl, rfl, rfl, by decide +kernel, rfl, by decide +kernel, by decide +kernel⟩
def m_law_of (p1 : U) : SM U := (opS getV (pureS (some p1)) (bindS (pureS (consO (callO lenV (consO (some p1) (some []))) (some []))) fun xs => callM 0 (b1 m_law_pull) xs))
theorem ok_law_of (T : Tx w K mg a d) : FnOk P w K mg base CX0 2 (a 36) (d 36) ["_law_urn_here", "_law_some"] (spS (b1 m_law_of)) := by
  refine T.f_law_of.ok sc_law_of (fun vs H Q E h => ?_) (fun cdv A outer s H vs Q E hr h => ?_)
  · obtain ⟨B, p, u, p1, vp1, R, rfl, _⟩ := ss1 h
    rfl
  · obtain ⟨B, p, u, p1, vp1, R, rfl, sB, W, rp1, hM, k⟩ := ss1 h
    have nd := sc_law_of.nd
    refine ⟨_, (pss_cons (ps_ret (pe_ix (ix_anyK (K := K) rfl hr.units) (pv 1) (pe_call (ok_law_pull T) (hr.mono (by decide)) (by rfl) T.g_law_pull T.f_law_pull.kp T.bd_law_pull .nil pass0 (pa_cons (pv 0) (pa_cons (pe_callB (call_lenK (K := K) rfl) (by rfl) T.b_len bb_len (pa_cons (pv 1) pa_nil)) pa_nil))) (fun _ _ => rfl))) pss_nil), ?_⟩
    exact (q_retS W (es_op2 rv_get (es_of (H := H) (eo_var rfl rp1)) (es_callM (j := 0) rfl rfl (eas_of (H := H) (ea_cons (eo_cb' rc_len (ea_cons (eo_var rfl rp1) ea_nil)) ea_nil)))) hM k)
/-! _law_words -/
abbrev s_law_words : Stmt := top 37
abbrev N_law_words : List Str := ["_law_urn_here", "_law_many", "_law_pool", "_law_found", "_law_k"]
def m_law_words_l1 (kL15 : SM U) : List U → SM U
  | [] => kL15
  | u32 :: l33 => (bindS (bindS (bindS (bindS (consS (lockO 1 fun u46 => (callO lenV (consO (some u46) (some [])))) (pureS (some []))) fun xs => callM 0 (b1 m_law_pull) xs) fun y => popS 1 y) fun y => appS 2 y) fun _ => (m_law_words_l1 kL15 l33))
theorem sc_law_words : FnScope N_law_words ["_law_urn_here", "_law_many"] (defScope s_law_words) := ⟨rfl, rfl, rfl, by decide +kernel, rfl, by decide +kernel, by decide +kernel⟩
def m_law_words (p1 : U) : SM U := (bindS (nlstS (pureS (consO (some (U.str "a")) (consO (some (U.str "b")) (consO (some (U.str "c")) (consO (some (U.str "d")) (consO (some (U.str "e")) (consO (some (U.str "f")) (consO (some (U.str "g")) (consO (some (U.str "h")) (consO (some (U.str "ab")) (consO (some (U.str "ba")) (consO (some (U.str "none")) (consO (some (U.str "web")) (consO (some (U.str "abcdefgh")) (consO (some (U.str "z")) (consO (some (U.str "zz")) (consO (some (U.str "count")) (some []))))))))))))))))))) fun u => addS u (bindS (nlstS (pureS (some []))) fun u => addS u (withK (takeS 2) fun kL15 => (bindS (pureS (rngO rng1 (consO (some p1) (some [])))) fun xs18 => m_law_words_l1 kL15 xs18))))
theorem ok_law_words (T : Tx w K mg a d) : FnOk P w K mg base CX0 2 (a 37) (d 37) ["_law_urn_here", "_law_many"] (spS (b1 m_law_words)) := by
  refine T.f_law_words.ok sc_law_words (fun vs H Q E h => ?_) (fun cdv A outer s H vs Q E hr h => ?_)
  · obtain ⟨B, p, u, p1, vp1, R, rfl, _⟩ := ss1 h
    rfl
  · obtain ⟨B, p, u, p1, vp1, R, rfl, sB, W, rp1, hM, k⟩ := ss1 h
    have nd := sc_law_words.nd
    refine ⟨_, (pss_cons (ps_set (i := 2) nd rfl (Or.inl rfl) (pe_lst (pa_cons pe_str (pa_cons pe_str (pa_cons pe_str (pa_cons pe_str (pa_cons pe_str (pa_cons pe_str (pa_cons pe_str (pa_cons pe_str (pa_cons pe_str (pa_cons pe_str (pa_cons pe_str (pa_cons pe_str (pa_cons pe_str (pa_cons pe_str (pa_cons pe_str (pa_cons pe_str pa_nil)))))))))))))))))) (pss_cons (ps_set (i := 3) nd rfl (Or.inl rfl) (pe_lst pa_nil)) (pss_cons (ps_for PassesOwn.never rfl (pi_range1 (by rfl) T.b_range (pa_cons (pv 1) pa_nil)) (pg_name (i := 4) nd rfl (Or.inl rfl)) (pss_cons (ps_expr (pe_appK (K := K) rfl (pv 3) (pa_cons (pe_popK (K := K) rfl (pv 2) (pa_cons (pe_call (ok_law_pull T) (hr.mono (by decide)) (by rfl) T.g_law_pull T.f_law_pull.kp T.bd_law_pull .nil pass0 (pa_cons (pv 0) (pa_cons (pe_lock (pe_callB (call_lenK (K := K) rfl) (by rfl) T.b_len bb_len (pa_cons (pv 2) pa_nil))) pa_nil))) pa_nil)) pa_nil))) pss_nil)) (pss_cons (ps_ret (pv 3)) pss_nil)))), ?_⟩
    exact (q_newS W (en_lst (eas_of (H := H) (ea_cons eo_str (ea_cons eo_str (ea_cons eo_str (ea_cons eo_str (ea_cons eo_str (ea_cons eo_str (ea_cons eo_str (ea_cons eo_str (ea_cons eo_str (ea_cons eo_str (ea_cons eo_str (ea_cons eo_str (ea_cons eo_str (ea_cons eo_str (ea_cons eo_str (ea_cons eo_str ea_nil)))))))))))))))))) hM fun ad1 B2 H3 us4 W5 s6 h7 => (q_newS W5 (en_lst (eas_of (H := H) ea_nil)) h7 fun ad8 B9 H10 us11 W12 s13 h14 => (q_withS h14 fun kL15 ekL16 h17 => q_forS W12 (eis_of (H := H) (ei_rng1 (ea_cons (eo_var rfl ((rp1.sm s6).sm s13)) ea_nil))) h17 fun xs18 B19 H20 us22 W23 s24 h21 => ⟨fun l25 sg26 B27 H28 => ∃ (o29 : Option V) (o30 : Option V) (us31 : List U), sg26 = [some (.ref p), o29, some (.ref ad1), some (.ref ad8), o30] ∧ Same B19 B27 ∧ Wh (bsM B H p) B27 H28 [p, ad1, ad8] us31 ∧ m_law_words_l1 kL15 l25 us31 = some R, ⟨_, _, us22, rfl, Same.refl _, W23, h21⟩, fun _ _ _ _ ⟨_, _, _, _, sX, WX, _⟩ => ⟨sX, WX.s⟩, fun u32 l33 v34 sg65 B35 H36 B37 H38 hR g39 r40 => (by obtain ⟨_, _, us44, rfl, s42, W45, h43⟩ := hR; exact (q_exprS (W45.go g39) (es_app (j := 2) rfl rfl (es_pop (j := 1) rfl rfl (es_callM (j := 0) rfl rfl (eas_cons (es_lockO (j := 1) rfl fun u46 _ _ s47 r48 => (eo_cb' rc_len (ea_cons (eo_var rfl r48) ea_nil))) eas_nil)) (by repeat' (first | exact lk_pure | exact lk_pop | exact lk_app | exact lk_lockO | exact lk_lockT | exact lk_take | exact lk_callM (by decide) | refine lk_lockS (fun _ => ?_) | refine lk_bind ?_ (fun _ => ?_)))) (by repeat' (first | exact lk_pure | exact lk_pop | exact lk_app | exact lk_lockO | exact lk_lockT | exact lk_take | exact lk_callM (by decide) | refine lk_lockS (fun _ => ?_) | refine lk_bind ?_ (fun _ => ?_)))) h43 fun x49 B50 H51 us52 W53 s54 h55 => ⟨_, _, _, _, rfl, ((s42.trans g39.b).trans s54), W53, h55⟩)), fun sg61 B62 H63 hR => (by obtain ⟨_, _, us59, rfl, s57, W60, h58⟩ := hR; have h64 : kL15 us59 = some R := h58; subst ekL16; exact (q_retS W60 (es_take (j := 2) rfl rfl) h64 k))⟩)))
/-! _law_rows -/
abbrev s_law_rows : Stmt := top 38
abbrev N_law_rows : List Str := ["_law_urn_here", "_law_many", "_law_doubles", "_law_pool", "_law_found", "_law_used", "_law_word", "_law_free", "_law_some", "_law_last", "_law_each"]
def m_law_rows_l2 (x158 : U) (kL194 : SM U) : List U → SM U
  | [] => kL194
  | u215 :: l216 => (bindS (opS addV (lockO 2 fun u229 => (op2 getV (some u229) (some u215))) (pureS (some (U.int 1)))) fun y238 => bindS (pureS (some u215)) fun k239 => bindS (putS 2 k239 y238) fun _ => (m_law_rows_l2 x158 kL194 l216))
def m_law_rows_l1 (kL27 : U → SM U) : List U → U → SM U
  | [], x501 => kL27 x501
  | u51 :: l52, x63 => (bindS (lockN 2 fun u68 => (lcS (fun u74 => (pureS (testO (op2 ltV (op2 getV (some u68) (some u74)) (some (U.int 2)))))) (fun u74 => (pureS (some u74))) (pureS (iterO U.iter (some u68))))) fun u => addS u (bindS (ifS (lockT 3 fun u84 => (testO (op2 neV2 (some u84) (lstO (some []))))) (nlstS (consS (bindS (opS subV (opS subV (lockO 3 fun u87 => (callO lenV (consO (some u87) (some [])))) (pureS (some (U.int 1)))) (bindS (consS (callS minU (consS (pureS (some (U.int 3))) (consS (lockO 3 fun u90 => (callO lenV (consO (some u90) (some [])))) (pureS (some []))))) (pureS (some []))) fun xs => callM 0 (b1 m_law_pull) xs)) fun y => popS 3 y) (pureS (some [])))) (nlstS (pureS (some [])))) fun u => addS u (bindS (opS getV (lockO 1 fun u100 => (op2 getV (some u100) (op1 negV (some (U.int 1))))) (pureS (some (U.int 1)))) fun x103 => (ifS (andS (pureS (testO (op2 gtV (some x63) (some (U.int 0))))) (andS (pureS (testO (op2 eqV2 (callO lenV (consO (some x103) (some []))) (some (U.int 2))))) (andS (testS (opS ltV (callS maxA (consS (lockO 2 fun u112 => (compO (fun u118 => (some true)) (fun u118 => (op2 getV (some u112) (some u118))) (iterO U.iter (some x103)))) (pureS (some [])))) (pureS (some (U.int 2))))) (testS (opS eqV2 (bindS (pureS (consO (some (U.int 2)) (some []))) fun xs => callM 0 (b1 m_law_pull) xs) (pureS (some (U.int 0)))))))) (bindS (callS (c1 listNB) (pureS (consO (some x103) (some [])))) fun u => swapS 4 u (ifS (lockT 4 fun u140 => (testO (op2 neV2 (some u140) (lstO (some []))))) (bindS (opS addV (opS subV (pureS (some x63)) (lockO 4 fun u155 => (callO lenV (consO (some u155) (some []))))) (pureS (some (U.int 1)))) fun x158 => (bindS (lockS 4 fun u167 => (opS stepV (pureS (some u167)) (bindS (pureS (consO (lstO (consO (some (U.int 1)) (consO (op1 negV (some (U.int 1))) (some [])))) (some []))) fun xs => callM 0 (b1 m_law_of) xs))) fun x170 => (bindS (bindS (pureS (tupO (consO (some u51) (consO (callO (c1 tupleV) (consO (some x170) (some []))) (some []))))) fun y => appS 1 y) fun _ => (bindS (pureS (some (U.int 0))) fun y192 => bindS (pureS (some u51)) fun k193 => bindS (putS 2 k193 y192) fun _ => (withK (cutS' 3 (m_law_rows_l1 kL27 l52 (x158))) fun kL194 => (bindS (pureS (iterO U.iter (some x170))) fun xs197 => m_law_rows_l2 x158 kL194 xs197)))))) (cutS' 3 (m_law_rows_l1 kL27 l52 (x63))))) (ifS (andS (pureS (testO (op2 gtV (some x63) (some (U.int 0))))) (andS (lockT 4 fun u250 => (testO (op2 neV2 (some u250) (lstO (some []))))) (andS (lockT 3 fun u253 => (testO (op2 neV2 (some u253) (lstO (some []))))) (testS (opS gtV (bindS (pureS (consO (some (U.int 3)) (some []))) fun xs => callM 0 (b1 m_law_pull) xs) (pureS (some (U.int 0)))))))) (bindS (bindS (lockS 3 fun u268 => (opS getV (pureS (some u268)) (opS subV (pureS (op2 subV (callO lenV (consO (some u268) (some []))) (some (U.int 1)))) (bindS (pureS (consO (callO minU (consO (some (U.int 3)) (consO (callO lenV (consO (some u268) (some []))) (some [])))) (some []))) fun xs => callM 0 (b1 m_law_pull) xs)))) fun y => appS 4 y) fun _ => (ifS (lockT 4 fun u278 => (testO (op2 neV2 (some u278) (lstO (some []))))) (bindS (opS addV (opS subV (pureS (some x63)) (lockO 4 fun u293 => (callO lenV (consO (some u293) (some []))))) (pureS (some (U.int 1)))) fun x296 => (bindS (lockS 4 fun u305 => (opS stepV (pureS (some u305)) (bindS (pureS (consO (lstO (consO (some (U.int 1)) (consO (op1 negV (some (U.int 1))) (some [])))) (some []))) fun xs => callM 0 (b1 m_law_of) xs))) fun x308 => (bindS (bindS (pureS (tupO (consO (some u51) (consO (callO (c1 tupleV) (consO (some x308) (some []))) (some []))))) fun y => appS 1 y) fun _ => (bindS (pureS (some (U.int 0))) fun y330 => bindS (pureS (some u51)) fun k331 => bindS (putS 2 k331 y330) fun _ => (withK (cutS' 3 (m_law_rows_l1 kL27 l52 (x296))) fun kL332 => (bindS (pureS (iterO U.iter (some x308))) fun xs335 => m_law_rows_l2 x296 kL332 xs335)))))) (cutS' 3 (m_law_rows_l1 kL27 l52 (x63))))) (ifS (lockT 4 fun u388 => (testO (op2 neV2 (some u388) (lstO (some []))))) (bindS (opS addV (opS subV (pureS (some x63)) (lockO 4 fun u403 => (callO lenV (consO (some u403) (some []))))) (pureS (some (U.int 1)))) fun x406 => (bindS (lockS 4 fun u415 => (opS stepV (pureS (some u415)) (bindS (pureS (consO (lstO (consO (some (U.int 1)) (consO (op1 negV (some (U.int 1))) (some [])))) (some []))) fun xs => callM 0 (b1 m_law_of) xs))) fun x418 => (bindS (bindS (pureS (tupO (consO (some u51) (consO (callO (c1 tupleV) (consO (some x418) (some []))) (some []))))) fun y => appS 1 y) fun _ => (bindS (pureS (some (U.int 0))) fun y440 => bindS (pureS (some u51)) fun k441 => bindS (putS 2 k441 y440) fun _ => (withK (cutS' 3 (m_law_rows_l1 kL27 l52 (x406))) fun kL442 => (bindS (pureS (iterO U.iter (some x418))) fun xs445 => m_law_rows_l2 x406 kL442 xs445)))))) (cutS' 3 (m_law_rows_l1 kL27 l52 (x63)))))))))
theorem sc_law_rows : FnScope N_law_rows ["_law_urn_here", "_law_many", "_law_doubles"] (defScope s_law_rows) := ⟨rfl, rfl, rfl, by decide +kernel, rfl, by decide +kernel, by decide +kernel⟩
def m_law_rows (p1 : U) (p2 : U) : SM U := (bindS (bindS (pureS (consO (some p1) (some []))) fun xs => callM 0 (b1 m_law_words) xs) fun x1 => (bindS (nlstS (pureS (consO (tupO (consO (op2 getV (some x1) (some (U.int 0))) (consO (tupO (some [])) (some [])))) (some [])))) fun x => bindS (disp1S (pureS (op2 getV (some x1) (some (U.int 0)))) (pureS (some (U.int 0)))) fun y => addS x (addS y (withK (fun x501 => (takeS 1)) fun kL27 => (bindS (pureS (iterO U.iter (slO (some x1) (ptO (some (U.int 1))) (some none)))) fun xs30 => m_law_rows_l1 kL27 xs30 (p2))))))
theorem ok_law_rows (T : Tx w K mg a d) : FnOk P w K mg base CX0 3 (a 38) (d 38) ["_law_urn_here", "_law_many", "_law_doubles"] (spS (b2 m_law_rows)) := by
  refine T.f_law_rows.ok sc_law_rows (fun vs H Q E h => ?_) (fun cdv A outer s H vs Q E hr h => ?_)
  · obtain ⟨B, p, u, p1, p2, vp1, vp2, R, rfl, _⟩ := ss2 h
    rfl
  · obtain ⟨B, p, u, p1, p2, vp1, vp2, R, rfl, sB, W, rp1, rp2, hM, k⟩ := ss2 h
    have nd := sc_law_rows.nd
    refine ⟨_, (pss_cons (ps_set (i := 3) nd rfl (Or.inl rfl) (pe_call (ok_law_words T) (hr.mono (by decide)) (by rfl) T.g_law_words T.f_law_words.kp T.bd_law_words .nil pass0 (pa_cons (pv 0) (pa_cons (pv 1) pa_nil)))) (pss_cons (ps_asg (pe_tup (pa_cons (pe_lst (pa_cons (pe_tup (pa_cons (pe_ix (ix_anyK (K := K) rfl hr.units) (pv 3) pe_int (fun _ _ => rfl)) (pa_cons (pe_tup pa_nil) pa_nil))) pa_nil)) (pa_cons (pe_disp (pps_cons (pe_ix (ix_anyK (K := K) rfl hr.units) (pv 3) pe_int (fun _ _ => rfl)) pe_int pps_nil) (by rfl) (by rfl) (fun z => by cases z) (by decide)) pa_nil))) (pg_tupK (K := K) rfl (by rfl) (pgs_cons (pg_name (i := 4) nd rfl (Or.inl rfl)) (pgs_cons (pg_name (i := 5) nd rfl (Or.inr rfl)) pgs_nil)))) (pss_cons (ps_for PassesOwn.never rfl (pi_anyK (K := K) rfl (pe_slice (sl_anyK (K := K) rfl) (pv 3) (po_some pe_int) po_none)) (pg_name (i := 6) nd rfl (Or.inl rfl)) (pss_cons (ps_lockA (ps_setLc (i := 7) (own := [("_law_each", 10)]) (g := gName 10) (by rfl) nd rfl rfl (sw_true rfl rfl rfl (by decide +kernel)) (pi_anyK (K := K) rfl (pv 5)) (blkOk_by (own := [("_law_each", 10)]) (N := N_law_rows) (sc := defScope s_law_rows) (by decide +kernel)) (fun _ _ _ _ _ => pg_name (i := 10) nd rfl (Or.inl rfl)) (fun _ _ _ _ _ => (pts_one (pt_cmpR op_lt (pe_ix (ix_anyK (K := K) rfl hr.units) (pv 5) (pv 10) (fun _ _ => rfl)) pe_int (nomark _)))) (fun _ _ _ _ _ => (pv 10)))) (pss_cons (ps_set (i := 8) nd rfl (Or.inl rfl) (pe_ifExp (pt_lock (pt_cmpR (op_neU hr.units) (pv 7) (pe_lst pa_nil) (nomark _))) (pe_lst (pa_cons (pe_popK (K := K) rfl (pv 7) (pa_cons (pe_op op_sub (pe_op op_sub (pe_lock (pe_callB (call_lenK (K := K) rfl) (by rfl) T.b_len bb_len (pa_cons (pv 7) pa_nil))) pe_int) (pe_call (ok_law_pull T) (hr.mono (by decide)) (by rfl) T.g_law_pull T.f_law_pull.kp T.bd_law_pull .nil pass0 (pa_cons (pv 0) (pa_cons (pe_callB (call_min2 rfl) (by rfl) T.b_min bb_min (pa_cons pe_int (pa_cons (pe_lock (pe_callB (call_lenK (K := K) rfl) (by rfl) T.b_len bb_len (pa_cons (pv 7) pa_nil))) pa_nil))) pa_nil)))) pa_nil)) pa_nil)) (pe_lst pa_nil))) (pss_cons (ps_set (i := 9) nd rfl (Or.inl rfl) (pe_ix (ix_anyK (K := K) rfl hr.units) (pe_lock (pe_ix (ix_anyK (K := K) rfl hr.units) (pv 4) (pe_un un_neg pe_int) (fun _ _ => rfl))) pe_int (fun _ _ => rfl))) (pss_cons (ps_if (PW.pt (pw_and (pt_cmpR op_gt (pv 2) pe_int (nomark _)) (pw_and (pt_cmpR (op_eqU hr.units) (pe_callB (call_lenK (K := K) rfl) (by rfl) T.b_len bb_len (pa_cons (pv 9) pa_nil)) pe_int (nomark _)) (pw_and (pt_cmpR op_lt (pe_callB (call_maxK (K := K) rfl rfl) (by rfl) T.b_max bb_max (pa_cons (pe_lock (pe_lc (own := [("_law_each", 10)]) (g := gName 10) (tt := tYes) (by rfl) nd (pi_anyK (K := K) rfl (pv 9)) (blkOk_by (own := [("_law_each", 10)]) (N := N_law_rows) (sc := defScope s_law_rows) (by decide +kernel)) (fun _ _ _ _ _ => pg_name (i := 10) nd rfl (Or.inl rfl)) (fun _ _ _ _ _ => pts_nil) (fun _ _ _ _ _ => (pe_ix (ix_anyK (K := K) rfl hr.units) (pv 5) (pv 10) (fun _ _ => rfl))))) pa_nil)) pe_int (nomark _)) (pw_and1 (pt_cmpR (op_eqU hr.units) (pe_call (ok_law_pull T) (hr.mono (by decide)) (by rfl) T.g_law_pull T.f_law_pull.kp T.bd_law_pull .nil pass0 (pa_cons (pv 0) (pa_cons pe_int pa_nil))) pe_int (nomark _))))))) (pss_cons (ps_set (i := 8) nd rfl (Or.inl rfl) (pe_callTy (call_listK (K := K) rfl rfl) (by rfl) T.b_list bb_list (pa_cons (pv 9) pa_nil))) pss_nil) (pss_cons (ps_if (PW.pt (pw_and (pt_cmpR op_gt (pv 2) pe_int (nomark _)) (pw_and (pt_lock (pt_cmpR (op_neU hr.units) (pv 8) (pe_lst pa_nil) (nomark _))) (pw_and (pt_lock (pt_cmpR (op_neU hr.units) (pv 7) (pe_lst pa_nil) (nomark _))) (pw_and1 (pt_cmpR op_gt (pe_call (ok_law_pull T) (hr.mono (by decide)) (by rfl) T.g_law_pull T.f_law_pull.kp T.bd_law_pull .nil pass0 (pa_cons (pv 0) (pa_cons pe_int pa_nil))) pe_int (nomark _))))))) (pss_cons (ps_expr (pe_appK (K := K) rfl (pv 8) (pa_cons (pe_lock (pe_ix (ix_anyK (K := K) rfl hr.units) (pv 7) (pe_op op_sub (pe_op op_sub (pe_callB (call_lenK (K := K) rfl) (by rfl) T.b_len bb_len (pa_cons (pv 7) pa_nil)) pe_int) (pe_call (ok_law_pull T) (hr.mono (by decide)) (by rfl) T.g_law_pull T.f_law_pull.kp T.bd_law_pull .nil pass0 (pa_cons (pv 0) (pa_cons (pe_callB (call_min2 rfl) (by rfl) T.b_min bb_min (pa_cons pe_int (pa_cons (pe_callB (call_lenK (K := K) rfl) (by rfl) T.b_len bb_len (pa_cons (pv 7) pa_nil)) pa_nil))) pa_nil)))) (fun _ _ => rfl))) pa_nil))) pss_nil) pss_nil) pss_nil)) (pss_cons (ps_if (pt_lock (pt_cmpR (op_neU hr.units) (pv 8) (pe_lst pa_nil) (nomark _))) (pss_cons (ps_set (i := 2) nd rfl (Or.inl rfl) (pe_op (op_addK (K := K) rfl) (pe_op op_sub (pv 2) (pe_lock (pe_callB (call_lenK (K := K) rfl) (by rfl) T.b_len bb_len (pa_cons (pv 8) pa_nil)))) pe_int)) (pss_cons (ps_set (i := 8) nd rfl (Or.inl rfl) (pe_lock (pe_stepK (K := K) rfl (pv 8) (pe_call (ok_law_of T) (hr.mono (by decide)) (by rfl) T.g_law_of T.f_law_of.kp T.bd_law_of .nil pass0 (pa_cons (pv 0) (pa_cons (pe_lst (pa_cons pe_int (pa_cons (pe_un un_neg pe_int) pa_nil))) pa_nil)))))) (pss_cons (ps_expr (pe_appK (K := K) rfl (pv 4) (pa_cons (pe_tup (pa_cons (pv 6) (pa_cons (pe_callTy (call_tupleK (K := K) rfl) (by rfl) T.b_tuple bb_tuple (pa_cons (pv 8) pa_nil)) pa_nil))) pa_nil))) (pss_cons (ps_dput (by exact Nat.lt_of_le_of_lt (Nat.add_le_add_left (show 1 ≤ 64 by decide) _) hr.units) (pv 5) (pv 6) pe_int rfl) (pss_cons (ps_for PassesOwn.never rfl (pi_anyK (K := K) rfl (pv 8)) (pg_name (i := 10) nd rfl (Or.inl rfl)) (pss_cons (ps_dput (by exact Nat.lt_of_le_of_lt (Nat.add_le_add_left (show 1 ≤ 64 by decide) _) hr.units) (pv 5) (pv 10) (pe_op (op_addK (K := K) rfl) (pe_lock (pe_ix (ix_anyK (K := K) rfl hr.units) (pv 5) (pv 10) (fun _ _ => rfl))) pe_int) rfl) pss_nil)) pss_nil))))) pss_nil) pss_nil)))))) (pss_cons (ps_ret (pv 4)) pss_nil)))), ?_⟩
    exact (q_asgS W (es_callM (j := 0) rfl rfl (eas_of (H := H) (ea_cons (eo_var rfl rp1) ea_nil))) hM fun x1 v2 B3 H4 us7 W8 s9 r6 h5 => (q_tupNN W8 (en_lst (eas_of (H := H) (ea_cons (eo_tup (ea_cons (eo_op2 rv_get (eo_var rfl r6) eo_int) (ea_cons (eo_tup ea_nil) ea_nil))) ea_nil))) (en_disp1 (es_of (H := H) (eo_op2 rv_get (eo_var rfl r6) eo_int)) (es_of (H := H) eo_int)) h5 fun ad25 ad26 B19 H20 us21 W22 s23 h24 => (q_withS h24 fun kL27 ekL28 h29 => q_forS W22 (eis_of (H := H) (ei_any (eo_slice (eo_var rfl (r6.sm s23)) (ep_of eo_int) ep_no))) h29 fun xs30 B31 H32 us34 W35 s36 h33 => ⟨fun l37 sg38 B39 H40 => ∃ (o41 : Option V) (x42 : U) (v43 : V) (o44 : Option V) (o45 : Option V) (o46 : Option V) (o47 : Option V) (o48 : Option V) (o49 : Option V) (us50 : List U), sg38 = [some (.ref p), o41, some v43, o44, some (.ref ad25), some (.ref ad26), o45, o46, o47, o48, o49] ∧ Same B31 B39 ∧ Rp B39 x42 v43 ∧ Wh (bsM B H p) B39 H40 [p, ad25, ad26] us50 ∧ m_law_rows_l1 kL27 l37 x42 us50 = some R, ⟨_, p2, _, _, _, _, _, _, _, us34, rfl, Same.refl _, (((rp2.sm s9).sm s23).sm s36), W35, h33⟩, fun _ _ _ _ ⟨_, _, _, _, _, _, _, _, _, _, _, sX, _, WX, _⟩ => ⟨sX, WX.s⟩, fun u51 l52 v53 sg510 B54 H55 B56 H57 hR g58 r59 => (by obtain ⟨_, x63, v64, _, _, _, _, _, _, us66, rfl, s61, r65, W67, h62⟩ := hR; exact (q_newS (W67.go g58) (en_lockN (j := 2) rfl fun u68 _ s69 r70 => (en_lc (eis_of (H := H) (ei_any (eo_var rfl r70))) (fun _ => rfl) (fun u74 v75 B72 H73 g71 r76 => (ets_of (H := H) (et_test (eo_op2 rv_lt (eo_op2 rv_get (eo_var rfl (r70.upA g71)) (eo_var rfl r76)) eo_int)))) (fun u74 v75 B72 H73 g71 r76 => (es_of (H := H) (eo_var rfl r76))))) h62 fun ad77 B78 H79 us80 W81 s82 h83 => (q_newS W81 (en_if (ets_lockT (j := 3) rfl fun u84 _ _ s85 r86 => (et_test (eo_op2 rv_ne (eo_var rfl r86) (eo_lst ea_nil)))) (en_lst (eas_cons (es_pop (j := 3) rfl rfl (es_op2 rv_sub (es_op2 rv_sub (es_lockO (j := 3) rfl fun u87 _ _ s88 r89 => (eo_cb' rc_len (ea_cons (eo_var rfl r89) ea_nil))) (es_of (H := H) eo_int)) (es_callM (j := 0) rfl rfl (eas_cons (es_cb rc_min (eas_cons (es_of (H := H) eo_int) (eas_cons (es_lockO (j := 3) rfl fun u90 _ _ s91 r92 => (eo_cb' rc_len (ea_cons (eo_var rfl r92) ea_nil))) eas_nil))) eas_nil))) (by repeat' (first | exact lk_pure | exact lk_pop | exact lk_app | exact lk_lockO | exact lk_lockT | exact lk_take | exact lk_callM (by decide) | refine lk_lockS (fun _ => ?_) | refine lk_bind ?_ (fun _ => ?_)))) eas_nil)) (en_lst (eas_of (H := H) ea_nil))) h83 fun ad93 B94 H95 us96 W97 s98 h99 => (q_asgS W97 (es_op2 rv_get (es_lockO (j := 1) rfl fun u100 _ _ s101 r102 => (eo_op2 rv_get (eo_var rfl r102) (eo_op1 ru_neg eo_int))) (es_of (H := H) eo_int)) h99 fun x103 v104 B105 H106 us109 W110 s111 r108 h107 => (q_ifS W110 (ets_and (ets_of (H := H) (et_test (eo_op2 rv_gt (eo_var rfl ((((r65.up g58).sm s82).sm s98).sm s111)) eo_int))) (ets_and (ets_of (H := H) (et_test (eo_op2 rv_eq (eo_cb' rc_len (ea_cons (eo_var rfl r108) ea_nil)) eo_int))) (ets_and (ets_test (es_op2 rv_lt (es_cb rc_maxA (eas_cons (es_lockO (j := 2) rfl fun u112 _ _ s113 r114 => (eo_lc (ei_any (eo_var rfl (r108.sm s113))) (fun _ => rfl) (fun u118 v119 B116 H117 g115 r120 => et_yes) (fun u118 v119 B116 H117 g115 r120 => (eo_op2 rv_get (eo_var rfl (r114.upA g115)) (eo_var rfl r120))))) eas_nil)) (es_of (H := H) eo_int))) (ets_test (es_op2 rv_eq (es_callM (j := 0) rfl rfl (eas_of (H := H) (ea_cons eo_int ea_nil))) (es_of (H := H) eo_int)))))) h107 (fun B121 H122 us127 W128 s129 h123 => (q_swapS (jj := 4) W128 (by simp) (.inl (by decide)) (en_listB (eas_of (H := H) (ea_cons (eo_var rfl (r108.sm s129)) ea_nil))) h123 fun ad133 B134 H135 us136 W137 s138 h139 => (q_ifS W137 (ets_lockT (j := 4) rfl fun u140 _ _ s141 r142 => (et_test (eo_op2 rv_ne (eo_var rfl r142) (eo_lst ea_nil)))) h139 (fun B143 H144 us149 W150 s151 h145 => (q_asgS W150 (es_op2 rv_add (es_op2 rv_sub (es_of (H := H) (eo_var rfl (((((((r65.up g58).sm s82).sm s98).sm s111).sm s129).sm s138).sm s151))) (es_lockO (j := 4) rfl fun u155 _ _ s156 r157 => (eo_cb' rc_len (ea_cons (eo_var rfl r157) ea_nil)))) (es_of (H := H) eo_int)) h145 fun x158 v159 B160 H161 us164 W165 s166 r163 h162 => (q_asgS W165 (es_lockS (j := 4) rfl fun u167 _ s168 r169 => (es_step (es_of (H := H) (eo_var rfl r169)) (es_callM (j := 0) rfl rfl (eas_of (H := H) (ea_cons (eo_lst (ea_cons eo_int (ea_cons (eo_op1 ru_neg eo_int) ea_nil))) ea_nil))))) h162 fun x170 v171 B172 H173 us176 W177 s178 r175 h174 => (q_exprS W177 (es_app (j := 1) rfl rfl (es_of (H := H) (eo_tup (ea_cons (eo_var rfl ((((((((r59.sm s82).sm s98).sm s111).sm s129).sm s138).sm s151).sm s166).sm s178)) (ea_cons (eo_cb' rc_tuple (ea_cons (eo_var rfl r175) ea_nil)) ea_nil)))) lk_of) h174 fun x179 B180 H181 us182 W183 s184 h185 => (q_dput (jj := 2) W183 rfl rfl (es_of (H := H) eo_int) (es_of (H := H) (eo_var rfl (((((((((r59.sm s82).sm s98).sm s111).sm s129).sm s138).sm s151).sm s166).sm s178).sm s184))) h185 fun B186 H187 us188 W189 s190 h191 => (q_withS h191 fun kL194 ekL195 h196 => q_forS W189 (eis_of (H := H) (ei_any (eo_var rfl ((r175.sm s184).sm s190)))) h196 fun xs197 B198 H199 us201 W202 s203 h200 => ⟨fun l204 sg205 B206 H207 => ∃ (o208 : Option V) (o209 : Option V) (o210 : Option V) (o211 : Option V) (o212 : Option V) (o213 : Option V) (us214 : List U), sg205 = [some (.ref p), o208, some v159, o209, some (.ref ad25), some (.ref ad26), o210, some (.ref ad77), o211, o212, o213] ∧ Same B198 B206 ∧ Wh (bsM B H p) B206 H207 [p, ad25, ad26, ad77, ad133] us214 ∧ m_law_rows_l2 x158 kL194 l204 us214 = some R, ⟨_, _, _, _, _, _, us201, rfl, Same.refl _, W202, h200⟩, fun _ _ _ _ ⟨_, _, _, _, _, _, _, _, sX, WX, _⟩ => ⟨sX, WX.s⟩, fun u215 l216 v217 sg249 B218 H219 B220 H221 hR g222 r223 => (by obtain ⟨_, _, _, _, _, _, us227, rfl, s225, W228, h226⟩ := hR; exact (q_dput (jj := 2) (W228.go g222) rfl rfl (es_op2 rv_add (es_lockO (j := 2) rfl fun u229 _ _ s230 r231 => (eo_op2 rv_get (eo_var rfl r231) (eo_var rfl (r223.sm s230)))) (es_of (H := H) eo_int)) (es_of (H := H) (eo_var rfl r223)) h226 fun B232 H233 us234 W235 s236 h237 => ⟨_, _, _, _, _, _, _, _, rfl, ((s225.trans g222.b).trans s236), W235, h237⟩)), fun sg245 B246 H247 hR => (by obtain ⟨_, _, _, _, _, _, us243, rfl, s241, W244, h242⟩ := hR; have h248 : kL194 us243 = some R := h242; subst ekL195; exact ⟨_, _, x158, _, _, _, _, _, _, _, _, rfl, (((((((((((((s61.trans g58.b).trans s82).trans s98).trans s111).trans s129).trans s138).trans s151).trans s166).trans s178).trans s184).trans s190).trans s203).trans s241), (((((r163.sm s178).sm s184).sm s190).sm s203).sm s241), (W244.take 3 (.inl (by decide))), h248⟩)⟩)))))) (fun B146 H147 us152 W153 s154 h148 => ⟨_, _, x63, _, _, _, _, _, _, _, _, rfl, (((((((s61.trans g58.b).trans s82).trans s98).trans s111).trans s129).trans s138).trans s154), (((((((r65.up g58).sm s82).sm s98).sm s111).sm s129).sm s138).sm s154), (W153.take 3 (.inl (by decide))), h148⟩)))) (fun B124 H125 us130 W131 s132 h126 => (q_ifS W131 (ets_and (ets_of (H := H) (et_test (eo_op2 rv_gt (eo_var rfl (((((r65.up g58).sm s82).sm s98).sm s111).sm s132)) eo_int))) (ets_and (ets_lockT (j := 4) rfl fun u250 _ _ s251 r252 => (et_test (eo_op2 rv_ne (eo_var rfl r252) (eo_lst ea_nil)))) (ets_and (ets_lockT (j := 3) rfl fun u253 _ _ s254 r255 => (et_test (eo_op2 rv_ne (eo_var rfl r255) (eo_lst ea_nil)))) (ets_test (es_op2 rv_gt (es_callM (j := 0) rfl rfl (eas_of (H := H) (ea_cons eo_int ea_nil))) (es_of (H := H) eo_int)))))) h126 (fun B256 H257 us262 W263 s264 h258 => (q_exprS W263 (es_app (j := 4) rfl rfl (es_lockS (j := 3) rfl fun u268 _ s269 r270 => (es_op2 rv_get (es_of (H := H) (eo_var rfl r270)) (es_op2 rv_sub (es_of (H := H) (eo_op2 rv_sub (eo_cb' rc_len (ea_cons (eo_var rfl r270) ea_nil)) eo_int)) (es_callM (j := 0) rfl rfl (eas_of (H := H) (ea_cons (eo_cb' rc_min (ea_cons eo_int (ea_cons (eo_cb' rc_len (ea_cons (eo_var rfl r270) ea_nil)) ea_nil))) ea_nil)))))) (by repeat' (first | exact lk_pure | exact lk_pop | exact lk_app | exact lk_lockO | exact lk_lockT | exact lk_take | exact lk_callM (by decide) | refine lk_lockS (fun _ => ?_) | refine lk_bind ?_ (fun _ => ?_)))) h258 fun x271 B272 H273 us274 W275 s276 h277 => (q_ifS W275 (ets_lockT (j := 4) rfl fun u278 _ _ s279 r280 => (et_test (eo_op2 rv_ne (eo_var rfl r280) (eo_lst ea_nil)))) h277 (fun B281 H282 us287 W288 s289 h283 => (q_asgS W288 (es_op2 rv_add (es_op2 rv_sub (es_of (H := H) (eo_var rfl ((((((((r65.up g58).sm s82).sm s98).sm s111).sm s132).sm s264).sm s276).sm s289))) (es_lockO (j := 4) rfl fun u293 _ _ s294 r295 => (eo_cb' rc_len (ea_cons (eo_var rfl r295) ea_nil)))) (es_of (H := H) eo_int)) h283 fun x296 v297 B298 H299 us302 W303 s304 r301 h300 => (q_asgS W303 (es_lockS (j := 4) rfl fun u305 _ s306 r307 => (es_step (es_of (H := H) (eo_var rfl r307)) (es_callM (j := 0) rfl rfl (eas_of (H := H) (ea_cons (eo_lst (ea_cons eo_int (ea_cons (eo_op1 ru_neg eo_int) ea_nil))) ea_nil))))) h300 fun x308 v309 B310 H311 us314 W315 s316 r313 h312 => (q_exprS W315 (es_app (j := 1) rfl rfl (es_of (H := H) (eo_tup (ea_cons (eo_var rfl (((((((((r59.sm s82).sm s98).sm s111).sm s132).sm s264).sm s276).sm s289).sm s304).sm s316)) (ea_cons (eo_cb' rc_tuple (ea_cons (eo_var rfl r313) ea_nil)) ea_nil)))) lk_of) h312 fun x317 B318 H319 us320 W321 s322 h323 => (q_dput (jj := 2) W321 rfl rfl (es_of (H := H) eo_int) (es_of (H := H) (eo_var rfl ((((((((((r59.sm s82).sm s98).sm s111).sm s132).sm s264).sm s276).sm s289).sm s304).sm s316).sm s322))) h323 fun B324 H325 us326 W327 s328 h329 => (q_withS h329 fun kL332 ekL333 h334 => q_forS W327 (eis_of (H := H) (ei_any (eo_var rfl ((r313.sm s322).sm s328)))) h334 fun xs335 B336 H337 us339 W340 s341 h338 => ⟨fun l342 sg343 B344 H345 => ∃ (o346 : Option V) (o347 : Option V) (o348 : Option V) (o349 : Option V) (o350 : Option V) (o351 : Option V) (us352 : List U), sg343 = [some (.ref p), o346, some v297, o347, some (.ref ad25), some (.ref ad26), o348, some (.ref ad77), o349, o350, o351] ∧ Same B336 B344 ∧ Wh (bsM B H p) B344 H345 [p, ad25, ad26, ad77, ad93] us352 ∧ m_law_rows_l2 x296 kL332 l342 us352 = some R, ⟨_, _, _, _, _, _, us339, rfl, Same.refl _, W340, h338⟩, fun _ _ _ _ ⟨_, _, _, _, _, _, _, _, sX, WX, _⟩ => ⟨sX, WX.s⟩, fun u353 l354 v355 sg387 B356 H357 B358 H359 hR g360 r361 => (by obtain ⟨_, _, _, _, _, _, us365, rfl, s363, W366, h364⟩ := hR; exact (q_dput (jj := 2) (W366.go g360) rfl rfl (es_op2 rv_add (es_lockO (j := 2) rfl fun u367 _ _ s368 r369 => (eo_op2 rv_get (eo_var rfl r369) (eo_var rfl (r361.sm s368)))) (es_of (H := H) eo_int)) (es_of (H := H) (eo_var rfl r361)) h364 fun B370 H371 us372 W373 s374 h375 => ⟨_, _, _, _, _, _, _, _, rfl, ((s363.trans g360.b).trans s374), W373, h375⟩)), fun sg383 B384 H385 hR => (by obtain ⟨_, _, _, _, _, _, us381, rfl, s379, W382, h380⟩ := hR; have h386 : kL332 us381 = some R := h380; subst ekL333; exact ⟨_, _, x296, _, _, _, _, _, _, _, _, rfl, ((((((((((((((s61.trans g58.b).trans s82).trans s98).trans s111).trans s132).trans s264).trans s276).trans s289).trans s304).trans s316).trans s322).trans s328).trans s341).trans s379), (((((r301.sm s316).sm s322).sm s328).sm s341).sm s379), (W382.take 3 (.inl (by decide))), h386⟩)⟩)))))) (fun B284 H285 us290 W291 s292 h286 => ⟨_, _, x63, _, _, _, _, _, _, _, _, rfl, ((((((((s61.trans g58.b).trans s82).trans s98).trans s111).trans s132).trans s264).trans s276).trans s292), ((((((((r65.up g58).sm s82).sm s98).sm s111).sm s132).sm s264).sm s276).sm s292), (W291.take 3 (.inl (by decide))), h286⟩)))) (fun B259 H260 us265 W266 s267 h261 => (q_ifS W266 (ets_lockT (j := 4) rfl fun u388 _ _ s389 r390 => (et_test (eo_op2 rv_ne (eo_var rfl r390) (eo_lst ea_nil)))) h261 (fun B391 H392 us397 W398 s399 h393 => (q_asgS W398 (es_op2 rv_add (es_op2 rv_sub (es_of (H := H) (eo_var rfl (((((((r65.up g58).sm s82).sm s98).sm s111).sm s132).sm s267).sm s399))) (es_lockO (j := 4) rfl fun u403 _ _ s404 r405 => (eo_cb' rc_len (ea_cons (eo_var rfl r405) ea_nil)))) (es_of (H := H) eo_int)) h393 fun x406 v407 B408 H409 us412 W413 s414 r411 h410 => (q_asgS W413 (es_lockS (j := 4) rfl fun u415 _ s416 r417 => (es_step (es_of (H := H) (eo_var rfl r417)) (es_callM (j := 0) rfl rfl (eas_of (H := H) (ea_cons (eo_lst (ea_cons eo_int (ea_cons (eo_op1 ru_neg eo_int) ea_nil))) ea_nil))))) h410 fun x418 v419 B420 H421 us424 W425 s426 r423 h422 => (q_exprS W425 (es_app (j := 1) rfl rfl (es_of (H := H) (eo_tup (ea_cons (eo_var rfl ((((((((r59.sm s82).sm s98).sm s111).sm s132).sm s267).sm s399).sm s414).sm s426)) (ea_cons (eo_cb' rc_tuple (ea_cons (eo_var rfl r423) ea_nil)) ea_nil)))) lk_of) h422 fun x427 B428 H429 us430 W431 s432 h433 => (q_dput (jj := 2) W431 rfl rfl (es_of (H := H) eo_int) (es_of (H := H) (eo_var rfl (((((((((r59.sm s82).sm s98).sm s111).sm s132).sm s267).sm s399).sm s414).sm s426).sm s432))) h433 fun B434 H435 us436 W437 s438 h439 => (q_withS h439 fun kL442 ekL443 h444 => q_forS W437 (eis_of (H := H) (ei_any (eo_var rfl ((r423.sm s432).sm s438)))) h444 fun xs445 B446 H447 us449 W450 s451 h448 => ⟨fun l452 sg453 B454 H455 => ∃ (o456 : Option V) (o457 : Option V) (o458 : Option V) (o459 : Option V) (o460 : Option V) (o461 : Option V) (us462 : List U), sg453 = [some (.ref p), o456, some v407, o457, some (.ref ad25), some (.ref ad26), o458, some (.ref ad77), o459, o460, o461] ∧ Same B446 B454 ∧ Wh (bsM B H p) B454 H455 [p, ad25, ad26, ad77, ad93] us462 ∧ m_law_rows_l2 x406 kL442 l452 us462 = some R, ⟨_, _, _, _, _, _, us449, rfl, Same.refl _, W450, h448⟩, fun _ _ _ _ ⟨_, _, _, _, _, _, _, _, sX, WX, _⟩ => ⟨sX, WX.s⟩, fun u463 l464 v465 sg497 B466 H467 B468 H469 hR g470 r471 => (by obtain ⟨_, _, _, _, _, _, us475, rfl, s473, W476, h474⟩ := hR; exact (q_dput (jj := 2) (W476.go g470) rfl rfl (es_op2 rv_add (es_lockO (j := 2) rfl fun u477 _ _ s478 r479 => (eo_op2 rv_get (eo_var rfl r479) (eo_var rfl (r471.sm s478)))) (es_of (H := H) eo_int)) (es_of (H := H) (eo_var rfl r471)) h474 fun B480 H481 us482 W483 s484 h485 => ⟨_, _, _, _, _, _, _, _, rfl, ((s473.trans g470.b).trans s484), W483, h485⟩)), fun sg493 B494 H495 hR => (by obtain ⟨_, _, _, _, _, _, us491, rfl, s489, W492, h490⟩ := hR; have h496 : kL442 us491 = some R := h490; subst ekL443; exact ⟨_, _, x406, _, _, _, _, _, _, _, _, rfl, (((((((((((((s61.trans g58.b).trans s82).trans s98).trans s111).trans s132).trans s267).trans s399).trans s414).trans s426).trans s432).trans s438).trans s451).trans s489), (((((r411.sm s426).sm s432).sm s438).sm s451).sm s489), (W492.take 3 (.inl (by decide))), h496⟩)⟩)))))) (fun B394 H395 us400 W401 s402 h396 => ⟨_, _, x63, _, _, _, _, _, _, _, _, rfl, (((((((s61.trans g58.b).trans s82).trans s98).trans s111).trans s132).trans s267).trans s402), (((((((r65.up g58).sm s82).sm s98).sm s111).sm s132).sm s267).sm s402), (W401.take 3 (.inl (by decide))), h396⟩)))))))))), fun sg506 B507 H508 hR => (by obtain ⟨_, x501, v502, _, _, _, _, _, _, us504, rfl, s499, r503, W505, h500⟩ := hR; have h509 : kL27 x501 us504 = some R := h500; subst ekL28; exact (q_retS W505 (es_take (j := 1) rfl rfl) h509 k))⟩)))
/-! _law_text -/
abbrev s_law_text : Stmt := top 39
abbrev N_law_text : List Str := ["_law_rows_now", "_law_word", "_law_some"]
theorem sc_law_text : FnScope N_law_text ["_law_rows_now"] (defScope s_law_text) := ⟨rfl, rfl, rfl, by decide +kernel, rfl, by decide +kernel, by decide +kernel⟩
def m_law_text (p0 : U) : Option U := (op2 joinV (some (U.str "; ")) (compO2 (fun u4 u7 => (some true)) (fun u4 u7 => (op2 joinV (some (U.str " ")) (op2 addV (lstO (consO (some u4) (some []))) (callO (c1 listB) (consO (some u7) (some [])))))) (iterO U.iter (some p0))))
theorem ok_law_text (T : Tx w K mg a d) : FnOk P w K mg base CX0 1 (a 39) (d 39) ["_law_rows_now"] (spU (a1 m_law_text)) := by
  refine T.f_law_text.ok sc_law_text (fun vs H Q E h => ?_) (fun cdv A outer s H vs Q E hr h => ?_)
  · obtain ⟨B, p0, vp0, r, rfl, _⟩ := sp1 h
    rfl
  · obtain ⟨B, p0, vp0, r, rfl, sB, rp0, hM, k⟩ := sp1 h
    have nd := sc_law_text.nd
    refine ⟨_, (pss_cons (ps_ret (pe_joinK (K := K) rfl pe_str (pe_lc (own := [("_law_word", 1), ("_law_some", 2)]) (g := gTup K 2 (gCons (gName 1) (gCons (gName 2) gNil))) (tt := tYes) (by rfl) nd (pi_anyK (K := K) rfl (pv 0)) (blkOk_by (own := [("_law_word", 1), ("_law_some", 2)]) (N := N_law_text) (sc := defScope s_law_text) (by decide +kernel)) (fun _ _ _ _ _ => pg_tupK (K := K) rfl (by rfl) (pgs_cons (pg_name (i := 1) nd rfl (Or.inl rfl)) (pgs_cons (pg_name (i := 2) nd rfl (Or.inl rfl)) pgs_nil))) (fun _ _ _ _ _ => pts_nil) (fun _ _ _ _ _ => (pe_joinK (K := K) rfl pe_str (pe_op (op_addK (K := K) rfl) (pe_lst (pa_cons (pv 1) pa_nil)) (pe_callTy (call_listK (K := K) rfl rfl) (by rfl) T.b_list bb_list (pa_cons (pv 2) pa_nil)))))))) pss_nil), ?_⟩
    exact (q_ret (eo_join eo_str (eo_lc2n (ei_any (eo_var rfl rp0)) (fun _ _ => rfl) (fun u4 u7 v5 v8 B2 H3 g1 r6 r9 => et_yes) (fun u4 u7 v5 v8 B2 H3 g1 r6 r9 => (eo_join eo_str (eo_op2 rv_add (eo_lst (ea_cons (eo_var rfl r6) ea_nil)) (eo_cb' rc_listK (ea_cons (eo_var rfl r9) ea_nil))))))) hM (Go.refl sB) k)
/-! _law_lines -/
abbrev s_law_lines : Stmt := top 40
abbrev N_law_lines : List Str := ["_law_rows_now", "_law_found", "_law_word", "_law_some", "_law_each"]
def m_law_lines_l1 (kL8 : U → Option U) : List U → U → Option U
  | [], x64 => kL8 x64
  | u26 :: l27, x38 => (unp2F u26 fun u41 u42 => ((op2 addV (some x38) (compO (fun u51 => (some true)) (fun u51 => (tupO (consO (some u51) (consO (some u41) (some []))))) (iterO U.iter (some u42)))).bind fun x54 => (m_law_lines_l1 kL8 l27 (x54))))
theorem sc_law_lines : FnScope N_law_lines ["_law_rows_now"] (defScope s_law_lines) := ⟨rfl, rfl, rfl, by decide +kernel, rfl, by decide +kernel, by decide +kernel⟩
def m_law_lines (p0 : U) : Option U := ((lstO (some [])).bind fun x1 => (withK (fun x64 => (some x64)) fun kL8 => ((iterO U.iter (some p0)).bind fun xs11 => m_law_lines_l1 kL8 xs11 (x1))))
theorem ok_law_lines (T : Tx w K mg a d) : FnOk P w K mg base CX0 1 (a 40) (d 40) ["_law_rows_now"] (spU (a1 m_law_lines)) := by
  refine T.f_law_lines.ok sc_law_lines (fun vs H Q E h => ?_) (fun cdv A outer s H vs Q E hr h => ?_)
  · obtain ⟨B, p0, vp0, r, rfl, _⟩ := sp1 h
    rfl
  · obtain ⟨B, p0, vp0, r, rfl, sB, rp0, hM, k⟩ := sp1 h
    have nd := sc_law_lines.nd
    refine ⟨_, (pss_cons (ps_set (i := 1) nd rfl (Or.inl rfl) (pe_lst pa_nil)) (pss_cons (ps_for PassesOwn.never rfl (pi_anyK (K := K) rfl (pv 0)) (pg_tupK (K := K) rfl (by rfl) (pgs_cons (pg_name (i := 2) nd rfl (Or.inr rfl)) (pgs_cons (pg_name (i := 3) nd rfl (Or.inl rfl)) pgs_nil))) (pss_cons (ps_set (i := 1) nd rfl (Or.inl rfl) (pe_op (op_addK (K := K) rfl) (pv 1) (pe_lc (own := [("_law_each", 4)]) (g := gName 4) (tt := tYes) (by rfl) nd (pi_anyK (K := K) rfl (pv 3)) (blkOk_by (own := [("_law_each", 4)]) (N := N_law_lines) (sc := defScope s_law_lines) (by decide +kernel)) (fun _ _ _ _ _ => pg_name (i := 4) nd rfl (Or.inl rfl)) (fun _ _ _ _ _ => pts_nil) (fun _ _ _ _ _ => (pe_tup (pa_cons (pv 4) (pa_cons (pv 2) pa_nil))))))) pss_nil)) (pss_cons (ps_ret (pv 1)) pss_nil))), ?_⟩
    exact (q_asg sB (eo_lst ea_nil) hM fun x1 v2 B3 H4 g7 r6 h5 => (q_withO h5 fun kL8 ekL9 h10 => q_forM g7.bh (ei_any (eo_var rfl (rp0.up g7))) h10 fun xs11 B12 H13 h14 g15 => ⟨fun l16 sg17 B18 H19 => ∃ (o20 : Option V) (x21 : U) (v22 : V) (o23 : Option V) (o24 : Option V) (o25 : Option V), sg17 = [o20, some v22, o23, o24, o25] ∧ Go B H B18 H19 ∧ Same B12 B18 ∧ Rp B18 x21 v22 ∧ m_law_lines_l1 kL8 l16 x21 = some r, ⟨_, x1, _, _, _, _, rfl, (((Go.refl sB).trans g7).trans g15), Same.refl _, (r6.up g15), h14⟩, fun _ _ _ _ ⟨_, _, _, _, _, _, _, GX, sX, _, _⟩ => ⟨sX, GX.bh⟩, fun u26 l27 v28 sg71 B29 H30 B31 H32 hR g33 r34 => (by obtain ⟨_, x38, v39, _, _, _, rfl, G35, s36, r40, h37⟩ := hR; exact g_two2 g33.bh r34 h37 fun u41 u42 v43 v44 r45 r46 h47 => (q_asg g33.bh (eo_op2 rv_add (eo_var rfl (r40.up g33)) (eo_lc (ei_any (eo_var rfl r46)) (fun _ => rfl) (fun u51 v52 B49 H50 g48 r53 => et_yes) (fun u51 v52 B49 H50 g48 r53 => (eo_tup (ea_cons (eo_var rfl r53) (ea_cons (eo_var rfl (r45.upA g48)) ea_nil)))))) h47 fun x54 v55 B56 H57 g60 r59 h58 => ⟨_, _, x54, _, _, _, _, rfl, ((G35.trans g33).trans g60), ((s36.trans g33.b).trans g60.b), r59, h58⟩)), fun sg67 B68 H69 hR => (by obtain ⟨_, x64, v65, _, _, _, rfl, G61, s62, r66, h63⟩ := hR; have h70 : kL8 x64 = some r := h63; subst ekL9; exact (q_ret (eo_var rfl r66) h70 G61 k))⟩))
/-! _law_inner -/
abbrev s_law_inner : Stmt := top 41
abbrev N_law_inner : List Str := ["_law_rows_now", "_law_used", "_law_line", "_law_word", "_law_some"]
theorem sc_law_inner : FnScope N_law_inner ["_law_rows_now"] (defScope s_law_inner) := ⟨rfl, rfl, rfl, by decide +kernel, rfl, by decide +kernel, by decide +kernel⟩
def m_law_inner (p0 : U) : Option U := ((compO (fun u4 => (some true)) (fun u4 => (op2 getV (some u4) (some (U.int 0)))) (iterO U.iter (callO (a1 m_law_lines) (consO (some p0) (some []))))).bind fun x7 => (compO2 (fun u17 u20 => (testO (op2 inV2 (some u17) (some x7)))) (fun u17 u20 => (some u17)) (iterO U.iter (some p0))))
theorem ok_law_inner (T : Tx w K mg a d) : FnOk P w K mg base CX0 2 (a 41) (d 41) ["_law_rows_now"] (spU (a1 m_law_inner)) := by
  refine T.f_law_inner.ok sc_law_inner (fun vs H Q E h => ?_) (fun cdv A outer s H vs Q E hr h => ?_)
  · obtain ⟨B, p0, vp0, r, rfl, _⟩ := sp1 h
    rfl
  · obtain ⟨B, p0, vp0, r, rfl, sB, rp0, hM, k⟩ := sp1 h
    have nd := sc_law_inner.nd
    refine ⟨_, (pss_cons (ps_set (i := 1) nd rfl (Or.inr rfl) (pe_lc (own := [("_law_line", 2)]) (g := gName 2) (tt := tYes) (by rfl) nd (pi_anyK (K := K) rfl (pe_call (ok_law_lines T) (hr.mono (by decide)) (by rfl) T.g_law_lines T.f_law_lines.kp T.bd_law_lines .nil pass0 (pa_cons (pv 0) pa_nil))) (blkOk_by (own := [("_law_line", 2)]) (N := N_law_inner) (sc := defScope s_law_inner) (by decide +kernel)) (fun _ _ _ _ _ => pg_name (i := 2) nd rfl (Or.inl rfl)) (fun _ _ _ _ _ => pts_nil) (fun _ _ _ _ _ => (pe_ix (ix_anyK (K := K) rfl hr.units) (pv 2) pe_int (fun _ _ => rfl))))) (pss_cons (ps_ret (pe_lc (own := [("_law_word", 3), ("_law_some", 4)]) (g := gTup K 2 (gCons (gName 3) (gCons (gName 4) gNil))) (by rfl) nd (pi_anyK (K := K) rfl (pv 0)) (blkOk_by (own := [("_law_word", 3), ("_law_some", 4)]) (N := N_law_inner) (sc := defScope s_law_inner) (by decide +kernel)) (fun _ _ _ _ _ => pg_tupK (K := K) rfl (by rfl) (pgs_cons (pg_name (i := 3) nd rfl (Or.inl rfl)) (pgs_cons (pg_name (i := 4) nd rfl (Or.inl rfl)) pgs_nil))) (fun _ _ _ _ _ => (pts_one (pt_cmpR (op_inA hr.units) (pv 3) (pv 1) (by rfl)))) (fun _ _ _ _ _ => (pv 3)))) pss_nil)), ?_⟩
    exact (q_asg sB (eo_lc (ei_any (eo_call (ea_cons (eo_var rfl rp0) ea_nil))) (fun _ => rfl) (fun u4 v5 B2 H3 g1 r6 => et_yes) (fun u4 v5 B2 H3 g1 r6 => (eo_op2 rv_get (eo_var rfl r6) eo_int))) hM fun x7 v8 B9 H10 g13 r12 h11 => (q_ret (eo_lc2n (ei_any (eo_var rfl (rp0.up g13))) (fun _ _ => rfl) (fun u17 u20 v18 v21 B15 H16 g14 r19 r22 => (et_test (eo_op2 rv_in (eo_var rfl r19) (eo_var rfl (r12.upA g14))))) (fun u17 u20 v18 v21 B15 H16 g14 r19 r22 => (eo_var rfl r19))) h11 ((Go.refl sB).trans g13) k))
/-! _law_tuples -/
abbrev s_law_tuples : Stmt := top 42
abbrev N_law_tuples : List Str := ["_law_rows_now", "_law_found", "_law_word", "_law_some", "_law_longer", "_law_each", "_law_origin"]
def m_law_tuples_l2 (u44 : U) (kL57 : U → Option U) : List U → U → Option U
  | [], x107 => kL57 x107
  | u76 :: l77, x88 => ((op2 addV (some x88) (compO (fun u94 => (some true)) (fun u94 => (op2 addV (some u76) (tupO (consO (some u94) (some []))))) (iterO U.iter (some u44)))).bind fun x97 => (m_law_tuples_l2 u44 kL57 l77 (x97)))
def m_law_tuples_l1 (kL8 : U → Option U) : List U → U → Option U
  | [], x125 => kL8 x125
  | u28 :: l29, x40 => (unp2F u28 fun u43 u44 => ((lstO (some [])).bind fun x50 => (withK (fun x107 => ((some x107).bind fun x114 => (m_law_tuples_l1 kL8 l29 (x114)))) fun kL57 => ((iterO U.iter (some x40)).bind fun xs60 => m_law_tuples_l2 u44 kL57 xs60 (x50)))))
theorem sc_law_tuples : FnScope N_law_tuples ["_law_rows_now"] (defScope s_law_tuples) := ⟨rfl, rfl, rfl, by decide +kernel, rfl, by decide +kernel, by decide +kernel⟩
def m_law_tuples (p0 : U) : Option U := ((lstO (consO (tupO (some [])) (some []))).bind fun x1 => (withK (fun x125 => (some x125)) fun kL8 => ((iterO U.iter (slO (some p0) (ptO (some (U.int 1))) (some none))).bind fun xs11 => m_law_tuples_l1 kL8 xs11 (x1))))
theorem ok_law_tuples (T : Tx w K mg a d) : FnOk P w K mg base CX0 1 (a 42) (d 42) ["_law_rows_now"] (spU (a1 m_law_tuples)) := by
  refine T.f_law_tuples.ok sc_law_tuples (fun vs H Q E h => ?_) (fun cdv A outer s H vs Q E hr h => ?_)
  · obtain ⟨B, p0, vp0, r, rfl, _⟩ := sp1 h
    rfl
  · obtain ⟨B, p0, vp0, r, rfl, sB, rp0, hM, k⟩ := sp1 h
    have nd := sc_law_tuples.nd
    refine ⟨_, (pss_cons (ps_set (i := 1) nd rfl (Or.inl rfl) (pe_lst (pa_cons (pe_tup pa_nil) pa_nil))) (pss_cons (ps_for PassesOwn.never rfl (pi_anyK (K := K) rfl (pe_slice (sl_anyK (K := K) rfl) (pv 0) (po_some pe_int) po_none)) (pg_tupK (K := K) rfl (by rfl) (pgs_cons (pg_name (i := 2) nd rfl (Or.inl rfl)) (pgs_cons (pg_name (i := 3) nd rfl (Or.inl rfl)) pgs_nil))) (pss_cons (ps_set (i := 4) nd rfl (Or.inl rfl) (pe_lst pa_nil)) (pss_cons (ps_for PassesOwn.never rfl (pi_anyK (K := K) rfl (pv 1)) (pg_name (i := 5) nd rfl (Or.inr rfl)) (pss_cons (ps_set (i := 4) nd rfl (Or.inl rfl) (pe_op (op_addK (K := K) rfl) (pv 4) (pe_lc (own := [("_law_origin", 6)]) (g := gName 6) (tt := tYes) (by rfl) nd (pi_anyK (K := K) rfl (pv 3)) (blkOk_by (own := [("_law_origin", 6)]) (N := N_law_tuples) (sc := defScope s_law_tuples) (by decide +kernel)) (fun _ _ _ _ _ => pg_name (i := 6) nd rfl (Or.inl rfl)) (fun _ _ _ _ _ => pts_nil) (fun _ _ _ _ _ => (pe_op (op_addK (K := K) rfl) (pv 5) (pe_tup (pa_cons (pv 6) pa_nil))))))) pss_nil)) (pss_cons (ps_set (i := 1) nd rfl (Or.inl rfl) (pv 4)) pss_nil)))) (pss_cons (ps_ret (pv 1)) pss_nil))), ?_⟩
    exact (q_asg sB (eo_lst (ea_cons (eo_tup ea_nil) ea_nil)) hM fun x1 v2 B3 H4 g7 r6 h5 => (q_withO h5 fun kL8 ekL9 h10 => q_forM g7.bh (ei_any (eo_slice (eo_var rfl (rp0.up g7)) (ep_of eo_int) ep_no)) h10 fun xs11 B12 H13 h14 g15 => ⟨fun l16 sg17 B18 H19 => ∃ (o20 : Option V) (x21 : U) (v22 : V) (o23 : Option V) (o24 : Option V) (o25 : Option V) (o26 : Option V) (o27 : Option V), sg17 = [o20, some v22, o23, o24, o25, o26, o27] ∧ Go B H B18 H19 ∧ Same B12 B18 ∧ Rp B18 x21 v22 ∧ m_law_tuples_l1 kL8 l16 x21 = some r, ⟨_, x1, _, _, _, _, _, _, rfl, (((Go.refl sB).trans g7).trans g15), Same.refl _, (r6.up g15), h14⟩, fun _ _ _ _ ⟨_, _, _, _, _, _, _, _, _, GX, sX, _, _⟩ => ⟨sX, GX.bh⟩, fun u28 l29 v30 sg132 B31 H32 B33 H34 hR g35 r36 => (by obtain ⟨_, x40, v41, _, _, _, _, _, rfl, G37, s38, r42, h39⟩ := hR; exact g_two2 g35.bh r36 h39 fun u43 u44 v45 v46 r47 r48 h49 => (q_asg g35.bh (eo_lst ea_nil) h49 fun x50 v51 B52 H53 g56 r55 h54 => (q_withO h54 fun kL57 ekL58 h59 => q_forM g56.bh (ei_any (eo_var rfl ((r42.up g35).up g56))) h59 fun xs60 B61 H62 h63 g64 => ⟨fun l65 sg66 B67 H68 => ∃ (o69 : Option V) (o70 : Option V) (o71 : Option V) (x72 : U) (v73 : V) (o74 : Option V) (o75 : Option V), sg66 = [o69, o70, o71, some v46, some v73, o74, o75] ∧ Go B H B67 H68 ∧ Same B61 B67 ∧ Rp B67 x72 v73 ∧ m_law_tuples_l2 u44 kL57 l65 x72 = some r, ⟨_, _, _, x50, _, _, _, rfl, (((G37.trans g35).trans g56).trans g64), Same.refl _, (r55.up g64), h63⟩, fun _ _ _ _ ⟨_, _, _, _, _, _, _, _, GX, sX, _, _⟩ => ⟨sX, GX.bh⟩, fun u76 l77 v78 sg121 B79 H80 B81 H82 hR g83 r84 => (by obtain ⟨_, _, _, x88, v89, _, _, rfl, G85, s86, r90, h87⟩ := hR; exact (q_asg g83.bh (eo_op2 rv_add (eo_var rfl (r90.up g83)) (eo_lc (ei_any (eo_var rfl ((((r48.up g56).up g64).sm s86).up g83))) (fun _ => rfl) (fun u94 v95 B92 H93 g91 r96 => et_yes) (fun u94 v95 B92 H93 g91 r96 => (eo_op2 rv_add (eo_var rfl (r84.upA g91)) (eo_tup (ea_cons (eo_var rfl r96) ea_nil)))))) h87 fun x97 v98 B99 H100 g103 r102 h101 => ⟨_, _, _, _, x97, _, _, _, rfl, ((G85.trans g83).trans g103), ((s86.trans g83.b).trans g103.b), r102, h101⟩)), fun sg110 B111 H112 hR => (by obtain ⟨_, _, _, x107, v108, _, _, rfl, G104, s105, r109, h106⟩ := hR; have h113 : kL57 x107 = some r := h106; subst ekL58; exact (q_asg G104.bh (eo_var rfl r109) h113 fun x114 v115 B116 H117 g120 r119 h118 => ⟨_, _, x114, _, _, _, _, _, _, rfl, (G104.trans g120), (((((s38.trans g35.b).trans g56.b).trans g64.b).trans s105).trans g120.b), r119, h118⟩))⟩))), fun sg128 B129 H130 hR => (by obtain ⟨_, x125, v126, _, _, _, _, _, rfl, G122, s123, r127, h124⟩ := hR; have h131 : kL8 x125 = some r := h124; subst ekL9; exact (q_ret (eo_var rfl r127) h131 G122 k))⟩))
/-! _law_is_choice -/
abbrev s_law_is_choice : Stmt := top 43
abbrev N_law_is_choice : List Str := ["_law_rows_now", "_law_thing", "_law_k", "_law_word"]
theorem sc_law_is_choice : FnScope N_law_is_choice ["_law_rows_now", "_law_thing"] (defScope s_law_is_choice) := ⟨rfl, rfl, rfl, by decide +kernel, rfl, by decide +kernel, by decide +kernel⟩
def m_law_is_choice (p0 : U) (p1 : U) : Option U := (ifO (orO (notO (testO (isO isTupB (some p1)))) (testO (op2 neV2 (callO lenV (consO (some p1) (some []))) (op2 subV (callO lenV (consO (some p0) (some []))) (some (U.int 1)))))) (some (U.bl false)) (ifO (notO (testO (callO (c1 allV) (consO (compO (fun u14 => (some true)) (fun u14 => (op2 inV2 (op2 getV (some p1) (some u14)) (op2 getV (op2 getV (some p0) (op2 addV (some u14) (some (U.int 1)))) (some (U.int 1))))) (rngO rng1 (consO (callO lenV (consO (some p1) (some []))) (some [])))) (some []))))) (some (U.bl false)) (callO (c1 allV) (consO (compO (fun u30 => (some true)) (fun u30 => (op2 inV2 (some u30) (some p1))) (iterO U.iter (callO (a1 m_law_inner) (consO (some p0) (some []))))) (some [])))))
theorem ok_law_is_choice (T : Tx w K mg a d) : FnOk P w K mg base CX0 3 (a 43) (d 43) ["_law_rows_now", "_law_thing"] (spU (a2 m_law_is_choice)) := by
  refine T.f_law_is_choice.ok sc_law_is_choice (fun vs H Q E h => ?_) (fun cdv A outer s H vs Q E hr h => ?_)
  · obtain ⟨B, p0, p1, vp0, vp1, r, rfl, _⟩ := sp2 h
    rfl
  · obtain ⟨B, p0, p1, vp0, vp1, r, rfl, sB, rp0, rp1, hM, k⟩ := sp2 h
    have nd := sc_law_is_choice.nd
    refine ⟨_, (pss_cons (ps_if (PW.pt (pw_or (pt_not (pt_val (pe_callB (call_isiKK (K := K) rfl) (by rfl) T.b_isinstance bb_isinstance (pa_cons (pv 1) (pa_cons (pe_bltn (v := .ty "tuple") (by rfl) T.b_tuple bb_tuple rfl) pa_nil))))) (pw_or1 (pt_cmpR (op_neU hr.units) (pe_callB (call_lenK (K := K) rfl) (by rfl) T.b_len bb_len (pa_cons (pv 1) pa_nil)) (pe_op op_sub (pe_callB (call_lenK (K := K) rfl) (by rfl) T.b_len bb_len (pa_cons (pv 0) pa_nil)) pe_int) (nomark _))))) (pss_cons (ps_ret pe_bl) pss_nil) pss_nil) (pss_cons (ps_if (pt_not (pt_val (pe_callB (cr_allK (K := K) rfl rfl) (by rfl) T.b_all bb_all (pa_cons (pe_lc (own := [("_law_k", 2)]) (g := gName 2) (tt := tYes) (by rfl) nd (pi_range1 (by rfl) T.b_range (pa_cons (pe_callB (call_lenK (K := K) rfl) (by rfl) T.b_len bb_len (pa_cons (pv 1) pa_nil)) pa_nil)) (blkOk_by (own := [("_law_k", 2)]) (N := N_law_is_choice) (sc := defScope s_law_is_choice) (by decide +kernel)) (fun _ _ _ _ _ => pg_name (i := 2) nd rfl (Or.inl rfl)) (fun _ _ _ _ _ => pts_nil) (fun _ _ _ _ _ => (pe_cmpR (op_inA hr.units) (pe_ix (ix_anyK (K := K) rfl hr.units) (pv 1) (pv 2) (fun _ _ => rfl)) (pe_ix (ix_anyK (K := K) rfl hr.units) (pe_ix (ix_anyK (K := K) rfl hr.units) (pv 0) (pe_op (op_addK (K := K) rfl) (pv 2) pe_int) (fun _ _ => rfl)) pe_int (fun _ _ => rfl)) (by rfl)))) pa_nil)))) (pss_cons (ps_ret pe_bl) pss_nil) pss_nil) (pss_cons (ps_ret (pe_callB (cr_allK (K := K) rfl rfl) (by rfl) T.b_all bb_all (pa_cons (pe_lc (own := [("_law_word", 3)]) (g := gName 3) (tt := tYes) (by rfl) nd (pi_anyK (K := K) rfl (pe_call (ok_law_inner T) (hr.mono (by decide)) (by rfl) T.g_law_inner T.f_law_inner.kp T.bd_law_inner .nil pass0 (pa_cons (pv 0) pa_nil))) (blkOk_by (own := [("_law_word", 3)]) (N := N_law_is_choice) (sc := defScope s_law_is_choice) (by decide +kernel)) (fun _ _ _ _ _ => pg_name (i := 3) nd rfl (Or.inl rfl)) (fun _ _ _ _ _ => pts_nil) (fun _ _ _ _ _ => (pe_cmpR (op_inA hr.units) (pv 3) (pv 1) (by rfl)))) pa_nil))) pss_nil))), ?_⟩
    exact (q_if sB (et_or (et_not (et_B (eo_isTup (eo_var rfl rp1)))) (et_test (eo_op2 rv_ne (eo_cb' rc_len (ea_cons (eo_var rfl rp1) ea_nil)) (eo_op2 rv_sub (eo_cb' rc_len (ea_cons (eo_var rfl rp0) ea_nil)) eo_int)))) hM (fun e7 h3 B1 H2 g9 => (q_ret eo_bl h3 ((Go.refl sB).trans g9) k)) (fun e8 h6 B4 H5 g10 => (q_if g10.bh (et_not (et_B (eo_cb' rc_all (ea_cons (eo_lc (ei_rng1 (ea_cons (eo_cb' rc_len (ea_cons (eo_var rfl (rp1.up g10)) ea_nil)) ea_nil)) (fun _ => rfl) (fun u14 v15 B12 H13 g11 r16 => et_yes) (fun u14 v15 B12 H13 g11 r16 => (eo_op2 rv_in (eo_op2 rv_get (eo_var rfl ((rp1.up g10).upA g11)) (eo_var rfl r16)) (eo_op2 rv_get (eo_op2 rv_get (eo_var rfl ((rp0.up g10).upA g11)) (eo_op2 rv_add (eo_var rfl r16) eo_int)) eo_int)))) ea_nil)))) h6 (fun e23 h19 B17 H18 g25 => (q_ret eo_bl h19 (((Go.refl sB).trans g10).trans g25) k)) (fun e24 h22 B20 H21 g26 => (q_ret (eo_cb' rc_all (ea_cons (eo_lc (ei_any (eo_call (ea_cons (eo_var rfl ((rp0.up g10).up g26)) ea_nil))) (fun _ => rfl) (fun u30 v31 B28 H29 g27 r32 => et_yes) (fun u30 v31 B28 H29 g27 r32 => (eo_op2 rv_in (eo_var rfl r32) (eo_var rfl (((rp1.up g10).up g26).upA g27))))) ea_nil)) h22 (((Go.refl sB).trans g10).trans g26) k)))))
/-! _law_choices -/
abbrev s_law_choices : Stmt := top 44
abbrev N_law_choices : List Str := ["_law_rows_now", "_law_each"]
theorem sc_law_choices : FnScope N_law_choices ["_law_rows_now"] (defScope s_law_choices) := ⟨rfl, rfl, rfl, by decide +kernel, rfl, by decide +kernel, by decide +kernel⟩
def m_law_choices (p0 : U) : Option U := (compO (fun u4 => (testO (callO (a2 m_law_is_choice) (consO (some p0) (consO (some u4) (some [])))))) (fun u4 => (some u4)) (iterO U.iter (callO (a1 m_law_tuples) (consO (some p0) (some [])))))
theorem ok_law_choices (T : Tx w K mg a d) : FnOk P w K mg base CX0 4 (a 44) (d 44) ["_law_rows_now"] (spU (a1 m_law_choices)) := by
  refine T.f_law_choices.ok sc_law_choices (fun vs H Q E h => ?_) (fun cdv A outer s H vs Q E hr h => ?_)
  · obtain ⟨B, p0, vp0, r, rfl, _⟩ := sp1 h
    rfl
  · obtain ⟨B, p0, vp0, r, rfl, sB, rp0, hM, k⟩ := sp1 h
    have nd := sc_law_choices.nd
    refine ⟨_, (pss_cons (ps_ret (pe_lc (own := [("_law_each", 1)]) (g := gName 1) (by rfl) nd (pi_anyK (K := K) rfl (pe_call (ok_law_tuples T) (hr.mono (by decide)) (by rfl) T.g_law_tuples T.f_law_tuples.kp T.bd_law_tuples .nil pass0 (pa_cons (pv 0) pa_nil))) (blkOk_by (own := [("_law_each", 1)]) (N := N_law_choices) (sc := defScope s_law_choices) (by decide +kernel)) (fun _ _ _ _ _ => pg_name (i := 1) nd rfl (Or.inl rfl)) (fun _ _ _ _ _ => (pts_one (pt_val (pe_call (ok_law_is_choice T) (hr.mono (by decide)) (by rfl) T.g_law_is_choice T.f_law_is_choice.kp T.bd_law_is_choice .nil pass0 (pa_cons (pv 0) (pa_cons (pv 1) pa_nil)))))) (fun _ _ _ _ _ => (pv 1)))) pss_nil), ?_⟩
    exact (q_ret (eo_lc (ei_any (eo_call (ea_cons (eo_var rfl rp0) ea_nil))) (fun _ => rfl) (fun u4 v5 B2 H3 g1 r6 => (et_B (eo_call (ea_cons (eo_var rfl (rp0.upA g1)) (ea_cons (eo_var rfl r6) ea_nil))))) (fun u4 v5 B2 H3 g1 r6 => (eo_var rfl r6))) hM (Go.refl sB) k)
/-! _law_made -/
abbrev s_law_made : Stmt := top 45
abbrev N_law_made : List Str := ["_law_rows_now", "_law_lot_now", "_law_line", "_law_found", "_law_word", "_law_some", "_law_each"]
def m_law_made_l1 (p1 : U) (p2 : U) (kL8 : SM U) : List U → SM U
  | [] => kL8
  | u27 :: l28 => (unpS u27 fun u41 u42 => (ifS (pureS (testO (callO (c1 anyV) (consO (compO (fun u51 => (some true)) (fun u51 => (andV (op2 inV2 (some u51) (some p1)) (op2 neV2 (tupO (consO (some u51) (consO (some u41) (some [])))) (some p2)))) (iterO U.iter (some u42))) (some []))))) (bindS (bindS (pureS (some u41)) fun y => appS 0 y) fun _ => (m_law_made_l1 p1 p2 kL8 l28)) (m_law_made_l1 p1 p2 kL8 l28)))
theorem sc_law_made : FnScope N_law_made ["_law_rows_now", "_law_lot_now", "_law_line"] (defScope s_law_made) := ⟨rfl, rfl, rfl, by decide +kernel, rfl, by decide +kernel, by decide +kernel⟩
def m_law_madeS (p0 : U) (p1 : U) (p2 : U) : SM U := (bindS (nlstS (pureS (some []))) fun u => addS u (withK (takeS 0) fun kL8 => (bindS (pureS (iterO U.iter (some p0))) fun xs11 => m_law_made_l1 p1 p2 kL8 xs11)))
def m_law_made (p0 : U) (p1 : U) (p2 : U) : Option U := runS (m_law_madeS p0 p1 p2)
theorem ok_law_made (T : Tx w K mg a d) : FnOk P w K mg base CX0 1 (a 45) (d 45) ["_law_rows_now", "_law_lot_now", "_law_line"] (spU (a3 m_law_made)) := by
  refine T.f_law_made.ok sc_law_made (fun vs H Q E h => ?_) (fun cdv A outer s H vs Q E hr h => ?_)
  · obtain ⟨B, p0, p1, p2, vp0, vp1, vp2, r, rfl, _⟩ := sp3 h
    rfl
  · obtain ⟨B, p0, p1, p2, vp0, vp1, vp2, r, rfl, sB, rp0, rp1, rp2, hM, k⟩ := sp3 h
    have nd := sc_law_made.nd
    obtain ⟨R, hM2, rfl⟩ := runS_some hM
    clear hM
    have k := fun v B2 H2 ps2 (W : Wh (bsU B H) B2 H2 ps2 R.2) r => k v B2 H2 W.pure r
    refine ⟨_, (pss_cons (ps_set (i := 3) nd rfl (Or.inl rfl) (pe_lst pa_nil)) (pss_cons (ps_for PassesOwn.never rfl (pi_anyK (K := K) rfl (pv 0)) (pg_tupK (K := K) rfl (by rfl) (pgs_cons (pg_name (i := 4) nd rfl (Or.inr rfl)) (pgs_cons (pg_name (i := 5) nd rfl (Or.inl rfl)) pgs_nil))) (pss_cons (ps_if (pt_val (pe_callB (cr_anyK (K := K) rfl rfl) (by rfl) T.b_any bb_any (pa_cons (pe_lc (own := [("_law_each", 6)]) (g := gName 6) (tt := tYes) (by rfl) nd (pi_anyK (K := K) rfl (pv 5)) (blkOk_by (own := [("_law_each", 6)]) (N := N_law_made) (sc := defScope s_law_made) (by decide +kernel)) (fun _ _ _ _ _ => pg_name (i := 6) nd rfl (Or.inl rfl)) (fun _ _ _ _ _ => pts_nil) (fun _ _ _ _ _ => (pe_and (pe_cmpR (op_inA hr.units) (pv 6) (pv 1) (by rfl)) (pe_one (pe_cmpR (op_neU hr.units) (pe_tup (pa_cons (pv 6) (pa_cons (pv 4) pa_nil))) (pv 2) (nomark _)))))) pa_nil))) (pss_cons (ps_expr (pe_appK (K := K) rfl (pv 3) (pa_cons (pv 4) pa_nil))) pss_nil) pss_nil) pss_nil)) (pss_cons (ps_ret (pv 3)) pss_nil))), ?_⟩
    exact (q_newS (wh_pure sB) (en_lst (eas_of (H := H) ea_nil)) hM2 fun ad1 B2 H3 us4 W5 s6 h7 => (q_withS h7 fun kL8 ekL9 h10 => q_forS W5 (eis_of (H := H) (ei_any (eo_var rfl (rp0.sm s6)))) h10 fun xs11 B12 H13 us15 W16 s17 h14 => ⟨fun l18 sg19 B20 H21 => ∃ (o22 : Option V) (o23 : Option V) (o24 : Option V) (o25 : Option V) (us26 : List U), sg19 = [o22, some vp1, some vp2, some (.ref ad1), o23, o24, o25] ∧ Same B12 B20 ∧ Wh (bsU B H) B20 H21 [ad1] us26 ∧ m_law_made_l1 p1 p2 kL8 l18 us26 = some R, ⟨_, _, _, _, us15, rfl, Same.refl _, W16, h14⟩, fun _ _ _ _ ⟨_, _, _, _, _, _, sX, WX, _⟩ => ⟨sX, WX.s⟩, fun u27 l28 v29 sg82 B30 H31 B32 H33 hR g34 r35 => (by obtain ⟨_, _, _, _, us39, rfl, s37, W40, h38⟩ := hR; exact g_twoS g34.bh r35 h38 fun u41 u42 v43 v44 r45 r46 h47 => (q_ifS (W40.go g34) (ets_of (H := H) (et_B (eo_cb' rc_any (ea_cons (eo_lc (ei_any (eo_var rfl r46)) (fun _ => rfl) (fun u51 v52 B49 H50 g48 r53 => et_yes) (fun u51 v52 B49 H50 g48 r53 => (eo_and (eo_op2 rv_in (eo_var rfl r53) (eo_var rfl (((((rp1.sm s6).sm s17).sm s37).up g34).upA g48))) (eo_op2 rv_ne (eo_tup (ea_cons (eo_var rfl r53) (ea_cons (eo_var rfl (r45.upA g48)) ea_nil))) (eo_var rfl (((((rp2.sm s6).sm s17).sm s37).up g34).upA g48)))))) ea_nil)))) h47 (fun B54 H55 us60 W61 s62 h56 => (q_exprS W61 (es_app (j := 0) rfl rfl (es_of (H := H) (eo_var rfl (r45.sm s62))) lk_of) h56 fun x66 B67 H68 us69 W70 s71 h72 => ⟨_, _, _, _, _, _, rfl, (((s37.trans g34.b).trans s62).trans s71), W70, h72⟩)) (fun B57 H58 us63 W64 s65 h59 => ⟨_, _, _, _, _, _, rfl, ((s37.trans g34.b).trans s65), W64, h59⟩))), fun sg78 B79 H80 hR => (by obtain ⟨_, _, _, _, us76, rfl, s74, W77, h75⟩ := hR; have h81 : kL8 us76 = some R := h75; subst ekL9; exact (q_retS W77 (es_take (j := 0) rfl rfl) h81 k))⟩))
/-! _law_is_lot -/
abbrev s_law_is_lot : Stmt := top 46
abbrev N_law_is_lot : List Str := ["_law_rows_now", "_law_thing", "_law_each", "_law_word"]
theorem sc_law_is_lot : FnScope N_law_is_lot ["_law_rows_now", "_law_thing"] (defScope s_law_is_lot) := ⟨rfl, rfl, rfl, by decide +kernel, rfl, by decide +kernel, by decide +kernel⟩
def m_law_is_lot (p0 : U) (p1 : U) : Option U := (ifO (orO (notO (testO (isO isTupB (some p1)))) (notO (testO (callO (c1 allV) (consO (compO (fun u4 => (some true)) (fun u4 => (isO isStrB (some u4))) (iterO U.iter (some p1))) (some [])))))) (some (U.bl false)) (op2 eqV2 (callO (c1 listB) (consO (some p1) (some []))) (compO (fun u20 => (testO (op2 inV2 (some u20) (some p1)))) (fun u20 => (some u20)) (iterO U.iter (callO (a1 m_law_inner) (consO (some p0) (some [])))))))
theorem ok_law_is_lot (T : Tx w K mg a d) : FnOk P w K mg base CX0 3 (a 46) (d 46) ["_law_rows_now", "_law_thing"] (spU (a2 m_law_is_lot)) := by
  refine T.f_law_is_lot.ok sc_law_is_lot (fun vs H Q E h => ?_) (fun cdv A outer s H vs Q E hr h => ?_)
  · obtain ⟨B, p0, p1, vp0, vp1, r, rfl, _⟩ := sp2 h
    rfl
  · obtain ⟨B, p0, p1, vp0, vp1, r, rfl, sB, rp0, rp1, hM, k⟩ := sp2 h
    have nd := sc_law_is_lot.nd
    refine ⟨_, (pss_cons (ps_if (PW.pt (pw_or (pt_not (pt_val (pe_callB (call_isiKK (K := K) rfl) (by rfl) T.b_isinstance bb_isinstance (pa_cons (pv 1) (pa_cons (pe_bltn (v := .ty "tuple") (by rfl) T.b_tuple bb_tuple rfl) pa_nil))))) (pw_or1 (pt_not (pt_val (pe_callB (cr_allK (K := K) rfl rfl) (by rfl) T.b_all bb_all (pa_cons (pe_lc (own := [("_law_each", 2)]) (g := gName 2) (tt := tYes) (by rfl) nd (pi_anyK (K := K) rfl (pv 1)) (blkOk_by (own := [("_law_each", 2)]) (N := N_law_is_lot) (sc := defScope s_law_is_lot) (by decide +kernel)) (fun _ _ _ _ _ => pg_name (i := 2) nd rfl (Or.inl rfl)) (fun _ _ _ _ _ => pts_nil) (fun _ _ _ _ _ => (pe_callB (call_isiKK (K := K) rfl) (by rfl) T.b_isinstance bb_isinstance (pa_cons (pv 2) (pa_cons (pe_bltn (v := .ty "str") (by rfl) T.b_str bb_str rfl) pa_nil))))) pa_nil))))))) (pss_cons (ps_ret pe_bl) pss_nil) pss_nil) (pss_cons (ps_ret (pe_cmpR (op_eqU hr.units) (pe_callTy (call_listK (K := K) rfl rfl) (by rfl) T.b_list bb_list (pa_cons (pv 1) pa_nil)) (pe_lc (own := [("_law_word", 3)]) (g := gName 3) (by rfl) nd (pi_anyK (K := K) rfl (pe_call (ok_law_inner T) (hr.mono (by decide)) (by rfl) T.g_law_inner T.f_law_inner.kp T.bd_law_inner .nil pass0 (pa_cons (pv 0) pa_nil))) (blkOk_by (own := [("_law_word", 3)]) (N := N_law_is_lot) (sc := defScope s_law_is_lot) (by decide +kernel)) (fun _ _ _ _ _ => pg_name (i := 3) nd rfl (Or.inl rfl)) (fun _ _ _ _ _ => (pts_one (pt_cmpR (op_inA hr.units) (pv 3) (pv 1) (by rfl)))) (fun _ _ _ _ _ => (pv 3))) (nomark _))) pss_nil)), ?_⟩
    exact (q_if sB (et_or (et_not (et_B (eo_isTup (eo_var rfl rp1)))) (et_not (et_B (eo_cb' rc_all (ea_cons (eo_lc (ei_any (eo_var rfl rp1)) (fun _ => rfl) (fun u4 v5 B2 H3 g1 r6 => et_yes) (fun u4 v5 B2 H3 g1 r6 => (eo_isStr (eo_var rfl r6)))) ea_nil))))) hM (fun e13 h9 B7 H8 g15 => (q_ret eo_bl h9 ((Go.refl sB).trans g15) k)) (fun e14 h12 B10 H11 g16 => (q_ret (eo_op2 rv_eq (eo_cb' rc_listK (ea_cons (eo_var rfl (rp1.up g16)) ea_nil)) (eo_lc (ei_any (eo_call (ea_cons (eo_var rfl (rp0.up g16)) ea_nil))) (fun _ => rfl) (fun u20 v21 B18 H19 g17 r22 => (et_test (eo_op2 rv_in (eo_var rfl r22) (eo_var rfl ((rp1.up g16).upA g17))))) (fun u20 v21 B18 H19 g17 r22 => (eo_var rfl r22)))) h12 ((Go.refl sB).trans g16) k)))
/-! _law_lacks -/
abbrev s_law_lacks : Stmt := top 47
abbrev N_law_lacks : List Str := ["_law_rows_now", "_law_thing"]
theorem sc_law_lacks : FnScope N_law_lacks ["_law_rows_now", "_law_thing"] (defScope s_law_lacks) := ⟨rfl, rfl, rfl, by decide +kernel, rfl, by decide +kernel, by decide +kernel⟩
def m_law_lacks (p0 : U) (p1 : U) : Option U := (andV (callO (a2 m_law_is_lot) (consO (some p0) (consO (some p1) (some [])))) (op2 ltV (callO lenV (consO (callO (a3 m_law_made) (consO (some p0) (consO (some p1) (consO (some U.non) (some []))))) (some []))) (callO lenV (consO (some p1) (some [])))))
theorem ok_law_lacks (T : Tx w K mg a d) : FnOk P w K mg base CX0 4 (a 47) (d 47) ["_law_rows_now", "_law_thing"] (spU (a2 m_law_lacks)) := by
  refine T.f_law_lacks.ok sc_law_lacks (fun vs H Q E h => ?_) (fun cdv A outer s H vs Q E hr h => ?_)
  · obtain ⟨B, p0, p1, vp0, vp1, r, rfl, _⟩ := sp2 h
    rfl
  · obtain ⟨B, p0, p1, vp0, vp1, r, rfl, sB, rp0, rp1, hM, k⟩ := sp2 h
    have nd := sc_law_lacks.nd
    refine ⟨_, (pss_cons (ps_ret (pe_and (pe_call (ok_law_is_lot T) (hr.mono (by decide)) (by rfl) T.g_law_is_lot T.f_law_is_lot.kp T.bd_law_is_lot .nil pass0 (pa_cons (pv 0) (pa_cons (pv 1) pa_nil))) (pe_one (pe_cmpR op_lt (pe_callB (call_lenK (K := K) rfl) (by rfl) T.b_len bb_len (pa_cons (pe_call (ok_law_made T) (hr.mono (by decide)) (by rfl) T.g_law_made T.f_law_made.kp T.bd_law_made .nil pass0 (pa_cons (pv 0) (pa_cons (pv 1) (pa_cons pe_non pa_nil)))) pa_nil)) (pe_callB (call_lenK (K := K) rfl) (by rfl) T.b_len bb_len (pa_cons (pv 1) pa_nil)) (nomark _))))) pss_nil), ?_⟩
    exact (q_ret (eo_and (eo_call (ea_cons (eo_var rfl rp0) (ea_cons (eo_var rfl rp1) ea_nil))) (eo_op2 rv_lt (eo_cb' rc_len (ea_cons (eo_call (ea_cons (eo_var rfl rp0) (ea_cons (eo_var rfl rp1) (ea_cons eo_non ea_nil)))) ea_nil)) (eo_cb' rc_len (ea_cons (eo_var rfl rp1) ea_nil)))) hM (Go.refl sB) k)
/-! _law_lots -/
abbrev s_law_lots : Stmt := top 48
abbrev N_law_lots : List Str := ["_law_rows_now", "_law_found", "_law_word", "_law_each"]
def m_law_lots_l1 (kL8 : U → Option U) : List U → U → Option U
  | [], x56 => kL8 x56
  | u25 :: l26, x37 => ((op2 addV (some x37) (compO (fun u43 => (some true)) (fun u43 => (op2 addV (some u43) (tupO (consO (some u25) (some []))))) (iterO U.iter (some x37)))).bind fun x46 => (m_law_lots_l1 kL8 l26 (x46)))
theorem sc_law_lots : FnScope N_law_lots ["_law_rows_now"] (defScope s_law_lots) := ⟨rfl, rfl, rfl, by decide +kernel, rfl, by decide +kernel, by decide +kernel⟩
def m_law_lots (p0 : U) : Option U := ((lstO (consO (tupO (some [])) (some []))).bind fun x1 => (withK (fun x56 => (some x56)) fun kL8 => ((iterO U.iter (callO (a1 m_law_inner) (consO (some p0) (some [])))).bind fun xs11 => m_law_lots_l1 kL8 xs11 (x1))))
theorem ok_law_lots (T : Tx w K mg a d) : FnOk P w K mg base CX0 3 (a 48) (d 48) ["_law_rows_now"] (spU (a1 m_law_lots)) := by
  refine T.f_law_lots.ok sc_law_lots (fun vs H Q E h => ?_) (fun cdv A outer s H vs Q E hr h => ?_)
  · obtain ⟨B, p0, vp0, r, rfl, _⟩ := sp1 h
    rfl
  · obtain ⟨B, p0, vp0, r, rfl, sB, rp0, hM, k⟩ := sp1 h
    have nd := sc_law_lots.nd
    refine ⟨_, (pss_cons (ps_set (i := 1) nd rfl (Or.inl rfl) (pe_lst (pa_cons (pe_tup pa_nil) pa_nil))) (pss_cons (ps_for PassesOwn.never rfl (pi_anyK (K := K) rfl (pe_call (ok_law_inner T) (hr.mono (by decide)) (by rfl) T.g_law_inner T.f_law_inner.kp T.bd_law_inner .nil pass0 (pa_cons (pv 0) pa_nil))) (pg_name (i := 2) nd rfl (Or.inr rfl)) (pss_cons (ps_set (i := 1) nd rfl (Or.inl rfl) (pe_op (op_addK (K := K) rfl) (pv 1) (pe_lc (own := [("_law_each", 3)]) (g := gName 3) (tt := tYes) (by rfl) nd (pi_anyK (K := K) rfl (pv 1)) (blkOk_by (own := [("_law_each", 3)]) (N := N_law_lots) (sc := defScope s_law_lots) (by decide +kernel)) (fun _ _ _ _ _ => pg_name (i := 3) nd rfl (Or.inl rfl)) (fun _ _ _ _ _ => pts_nil) (fun _ _ _ _ _ => (pe_op (op_addK (K := K) rfl) (pv 3) (pe_tup (pa_cons (pv 2) pa_nil))))))) pss_nil)) (pss_cons (ps_ret (pv 1)) pss_nil))), ?_⟩
    exact (q_asg sB (eo_lst (ea_cons (eo_tup ea_nil) ea_nil)) hM fun x1 v2 B3 H4 g7 r6 h5 => (q_withO h5 fun kL8 ekL9 h10 => q_forM g7.bh (ei_any (eo_call (ea_cons (eo_var rfl (rp0.up g7)) ea_nil))) h10 fun xs11 B12 H13 h14 g15 => ⟨fun l16 sg17 B18 H19 => ∃ (o20 : Option V) (x21 : U) (v22 : V) (o23 : Option V) (o24 : Option V), sg17 = [o20, some v22, o23, o24] ∧ Go B H B18 H19 ∧ Same B12 B18 ∧ Rp B18 x21 v22 ∧ m_law_lots_l1 kL8 l16 x21 = some r, ⟨_, x1, _, _, _, rfl, (((Go.refl sB).trans g7).trans g15), Same.refl _, (r6.up g15), h14⟩, fun _ _ _ _ ⟨_, _, _, _, _, _, GX, sX, _, _⟩ => ⟨sX, GX.bh⟩, fun u25 l26 v27 sg63 B28 H29 B30 H31 hR g32 r33 => (by obtain ⟨_, x37, v38, _, _, rfl, G34, s35, r39, h36⟩ := hR; exact (q_asg g32.bh (eo_op2 rv_add (eo_var rfl (r39.up g32)) (eo_lc (ei_any (eo_var rfl (r39.up g32))) (fun _ => rfl) (fun u43 v44 B41 H42 g40 r45 => et_yes) (fun u43 v44 B41 H42 g40 r45 => (eo_op2 rv_add (eo_var rfl r45) (eo_tup (ea_cons (eo_var rfl (r33.upA g40)) ea_nil)))))) h36 fun x46 v47 B48 H49 g52 r51 h50 => ⟨_, _, x46, _, _, _, rfl, ((G34.trans g32).trans g52), ((s35.trans g32.b).trans g52.b), r51, h50⟩)), fun sg59 B60 H61 hR => (by obtain ⟨_, x56, v57, _, _, rfl, G53, s54, r58, h55⟩ := hR; have h62 : kL8 x56 = some r := h55; subst ekL9; exact (q_ret (eo_var rfl r58) h62 G53 k))⟩))
/-! _law_bent_lot -/
abbrev s_law_bent_lot : Stmt := top 49
abbrev N_law_bent_lot : List Str := ["_law_urn_here", "_law_rows_now", "_law_lot_now", "_law_at", "_law_way_now", "_law_odd"]
theorem sc_law_bent_lot : FnScope N_law_bent_lot ["_law_urn_here", "_law_rows_now", "_law_lot_now"] (defScope s_law_bent_lot) := ⟨rfl, rfl, rfl, by decide +kernel, rfl, by decide +kernel, by decide +kernel⟩
def m_law_bent_lot (p1 : U) (p2 : U) : SM U := (bindS (consS (bindS (pureS (consO (op2 addV (callO lenV (consO (some p2) (some []))) (some (U.int 1))) (some []))) fun xs => callM 0 (b1 m_law_pull) xs) (consS (bindS (pureS (consO (some (U.int 7)) (some []))) fun xs => callM 0 (b1 m_law_pull) xs) (pureS (some [])))) fun xs => parS xs fun x1 x2 => (bindS (bindS (pureS (consO (lstO (consO (op2 getV (op2 getV (some p1) (op1 negV (some (U.int 1)))) (some (U.int 0))) (consO (op2 getV (op2 getV (some p1) (some (U.int 0))) (some (U.int 0))) (consO (some (U.str "q")) (consO (some (U.str "")) (consO (some U.non) (consO (some (U.int 0)) (consO (some (U.bl true)) (consO (tupO (consO (some (U.str "a")) (some []))) (consO (lstO (consO (some (U.str "a")) (some []))) (some []))))))))))) (some []))) fun xs => callM 0 (b1 m_law_of) xs) fun x13 => (ifS (pureS (testO (op2 eqV2 (some x2) (some (U.int 0))))) (pureS (callO (c1 listB) (consO (some p2) (some [])))) (ifS (pureS (testO (op2 eqV2 (some x2) (some (U.int 1))))) (pureS (op2 stepV (some p2) (op1 negV (some (U.int 1))))) (ifS (pureS (testO (op2 eqV2 (some x2) (some (U.int 2))))) (pureS (op2 addV (some p2) (slO (some p2) (some none) (ptO (some (U.int 1)))))) (ifS (pureS (testO (op2 ltV (some x2) (some (U.int 5))))) (pureS (op2 addV (op2 addV (slO (some p2) (some none) (ptO (some x1))) (tupO (consO (some x13) (some [])))) (slO (some p2) (ptO (op2 subV (op2 addV (some x1) (some x2)) (some (U.int 3)))) (some none)))) (pureS (some p2))))))))
theorem ok_law_bent_lot (T : Tx w K mg a d) : FnOk P w K mg base CX0 3 (a 49) (d 49) ["_law_urn_here", "_law_rows_now", "_law_lot_now"] (spS (b2 m_law_bent_lot)) := by
  refine T.f_law_bent_lot.ok sc_law_bent_lot (fun vs H Q E h => ?_) (fun cdv A outer s H vs Q E hr h => ?_)
  · obtain ⟨B, p, u, p1, p2, vp1, vp2, R, rfl, _⟩ := ss2 h
    rfl
  · obtain ⟨B, p, u, p1, p2, vp1, vp2, R, rfl, sB, W, rp1, rp2, hM, k⟩ := ss2 h
    have nd := sc_law_bent_lot.nd
    refine ⟨_, (pss_cons (ps_par (i := 3) (j := 4) (by rfl) nd rfl rfl (by decide) rfl rfl (pa_cons (pe_call (ok_law_pull T) (hr.mono (by decide)) (by rfl) T.g_law_pull T.f_law_pull.kp T.bd_law_pull .nil pass0 (pa_cons (pv 0) (pa_cons (pe_op (op_addK (K := K) rfl) (pe_callB (call_lenK (K := K) rfl) (by rfl) T.b_len bb_len (pa_cons (pv 2) pa_nil)) pe_int) pa_nil))) (pa_cons (pe_call (ok_law_pull T) (hr.mono (by decide)) (by rfl) T.g_law_pull T.f_law_pull.kp T.bd_law_pull .nil pass0 (pa_cons (pv 0) (pa_cons pe_int pa_nil))) pa_nil)) (by rfl)) (pss_cons (ps_set (i := 5) nd rfl (Or.inl rfl) (pe_call (ok_law_of T) (hr.mono (by decide)) (by rfl) T.g_law_of T.f_law_of.kp T.bd_law_of .nil pass0 (pa_cons (pv 0) (pa_cons (pe_lst (pa_cons (pe_ix (ix_anyK (K := K) rfl hr.units) (pe_ix (ix_anyK (K := K) rfl hr.units) (pv 1) (pe_un un_neg pe_int) (fun _ _ => rfl)) pe_int (fun _ _ => rfl)) (pa_cons (pe_ix (ix_anyK (K := K) rfl hr.units) (pe_ix (ix_anyK (K := K) rfl hr.units) (pv 1) pe_int (fun _ _ => rfl)) pe_int (fun _ _ => rfl)) (pa_cons pe_str (pa_cons pe_str (pa_cons pe_non (pa_cons pe_int (pa_cons pe_bl (pa_cons (pe_tup (pa_cons pe_str pa_nil)) (pa_cons (pe_lst (pa_cons pe_str pa_nil)) pa_nil)))))))))) pa_nil)))) (pss_cons (ps_if (pt_cmpR (op_eqU hr.units) (pv 4) pe_int (nomark _)) (pss_cons (ps_ret (pe_callTy (call_listK (K := K) rfl rfl) (by rfl) T.b_list bb_list (pa_cons (pv 2) pa_nil))) pss_nil) pss_nil) (pss_cons (ps_if (pt_cmpR (op_eqU hr.units) (pv 4) pe_int (nomark _)) (pss_cons (ps_ret (pe_stepK (K := K) rfl (pv 2) (pe_un un_neg pe_int))) pss_nil) pss_nil) (pss_cons (ps_if (pt_cmpR (op_eqU hr.units) (pv 4) pe_int (nomark _)) (pss_cons (ps_ret (pe_op (op_addK (K := K) rfl) (pv 2) (pe_slice (sl_anyK (K := K) rfl) (pv 2) po_none (po_some pe_int)))) pss_nil) pss_nil) (pss_cons (ps_if (pt_cmpR op_lt (pv 4) pe_int (nomark _)) (pss_cons (ps_ret (pe_op (op_addK (K := K) rfl) (pe_op (op_addK (K := K) rfl) (pe_slice (sl_anyK (K := K) rfl) (pv 2) po_none (po_some (pv 3))) (pe_tup (pa_cons (pv 5) pa_nil))) (pe_slice (sl_anyK (K := K) rfl) (pv 2) (po_some (pe_op op_sub (pe_op (op_addK (K := K) rfl) (pv 3) (pv 4)) pe_int)) po_none))) pss_nil) pss_nil) (pss_cons (ps_ret (pv 2)) pss_nil))))))), ?_⟩
    exact (q_parS W (eas_cons (es_callM (j := 0) rfl rfl (eas_of (H := H) (ea_cons (eo_op2 rv_add (eo_cb' rc_len (ea_cons (eo_var rfl rp2) ea_nil)) eo_int) ea_nil))) (eas_cons (es_callM (j := 0) rfl rfl (eas_of (H := H) (ea_cons eo_int ea_nil))) eas_nil)) hM fun x1 x2 v3 v4 B5 H6 us10 W11 s12 r7 r8 h9 => (q_asgS W11 (es_callM (j := 0) rfl rfl (eas_of (H := H) (ea_cons (eo_lst (ea_cons (eo_op2 rv_get (eo_op2 rv_get (eo_var rfl (rp1.sm s12)) (eo_op1 ru_neg eo_int)) eo_int) (ea_cons (eo_op2 rv_get (eo_op2 rv_get (eo_var rfl (rp1.sm s12)) eo_int) eo_int) (ea_cons eo_str (ea_cons eo_str (ea_cons eo_non (ea_cons eo_int (ea_cons eo_bl (ea_cons (eo_tup (ea_cons eo_str ea_nil)) (ea_cons (eo_lst (ea_cons eo_str ea_nil)) ea_nil)))))))))) ea_nil))) h9 fun x13 v14 B15 H16 us19 W20 s21 r18 h17 => (q_ifS W20 (ets_of (H := H) (et_test (eo_op2 rv_eq (eo_var rfl (r8.sm s21)) eo_int))) h17 (fun B22 H23 us28 W29 s30 h24 => (q_retS W29 (es_of (H := H) (eo_cb' rc_listK (ea_cons (eo_var rfl (((rp2.sm s12).sm s21).sm s30)) ea_nil))) h24 k)) (fun B25 H26 us31 W32 s33 h27 => (q_ifS W32 (ets_of (H := H) (et_test (eo_op2 rv_eq (eo_var rfl ((r8.sm s21).sm s33)) eo_int))) h27 (fun B34 H35 us40 W41 s42 h36 => (q_retS W41 (es_of (H := H) (eo_step (eo_var rfl ((((rp2.sm s12).sm s21).sm s33).sm s42)) (eo_op1 ru_neg eo_int))) h36 k)) (fun B37 H38 us43 W44 s45 h39 => (q_ifS W44 (ets_of (H := H) (et_test (eo_op2 rv_eq (eo_var rfl (((r8.sm s21).sm s33).sm s45)) eo_int))) h39 (fun B46 H47 us52 W53 s54 h48 => (q_retS W53 (es_of (H := H) (eo_op2 rv_add (eo_var rfl (((((rp2.sm s12).sm s21).sm s33).sm s45).sm s54)) (eo_slice (eo_var rfl (((((rp2.sm s12).sm s21).sm s33).sm s45).sm s54)) ep_no (ep_of eo_int)))) h48 k)) (fun B49 H50 us55 W56 s57 h51 => (q_ifS W56 (ets_of (H := H) (et_test (eo_op2 rv_lt (eo_var rfl ((((r8.sm s21).sm s33).sm s45).sm s57)) eo_int))) h51 (fun B58 H59 us64 W65 s66 h60 => (q_retS W65 (es_of (H := H) (eo_op2 rv_add (eo_op2 rv_add (eo_slice (eo_var rfl ((((((rp2.sm s12).sm s21).sm s33).sm s45).sm s57).sm s66)) ep_no (ep_of (eo_var rfl (((((r7.sm s21).sm s33).sm s45).sm s57).sm s66)))) (eo_tup (ea_cons (eo_var rfl ((((r18.sm s33).sm s45).sm s57).sm s66)) ea_nil))) (eo_slice (eo_var rfl ((((((rp2.sm s12).sm s21).sm s33).sm s45).sm s57).sm s66)) (ep_of (eo_op2 rv_sub (eo_op2 rv_add (eo_var rfl (((((r7.sm s21).sm s33).sm s45).sm s57).sm s66)) (eo_var rfl (((((r8.sm s21).sm s33).sm s45).sm s57).sm s66))) eo_int)) ep_no))) h60 k)) (fun B61 H62 us67 W68 s69 h63 => (q_retS W68 (es_of (H := H) (eo_var rfl ((((((rp2.sm s12).sm s21).sm s33).sm s45).sm s57).sm s69))) h63 k)))))))))))
/-! _law_right -/
abbrev s_law_right : Stmt := top 50
abbrev N_law_right : List Str := ["_law_urn_here", "_law_turn", "_law_rows_now", "_law_lot_now", "_law_again", "_law_claimed", "_law_some", "_law_due", "_law_thing"]
def m_law_right_l3 (x38 : U) (x47 : U) (x131 : U) (kL152 : SM U) : List U → SM U
  | [] => kL152
  | u172 :: l173 => (bindS (bindS (consS (pureS (some x38)) (consS (bindS (pureS (consO (op2 addV (callO (a1 m_law_lots) (consO (some x38) (some []))) (some x131)) (some []))) fun xs => callM 0 (b1 m_law_of) xs) (pureS (some [])))) fun xs => callM 0 (b2 m_law_bent_lot) xs) fun x186 => (ifS (pureS (testO (op2 neV2 (callO (c1 reprV) (consO (callO (a2 m_accepts) (consO (some x47) (consO (some x186) (some [])))) (some []))) (callO (c1 reprV) (consO (callO (a2 m_law_lacks) (consO (some x38) (consO (some x186) (some [])))) (some [])))))) (pureS (some (U.bl false))) (m_law_right_l3 x38 x47 x131 kL152 l173)))
def m_law_right_l2 (x38 : U) (x47 : U) (kL59 : U → SM U) : List U → U → SM U
  | [], x131 => kL59 x131
  | u81 :: l82, x93 => (bindS (pureS (callO (a2 m_law_lacks) (consO (some x38) (consO (some u81) (some []))))) fun x98 => (ifS (pureS (testO (op2 neV2 (callO (c1 reprV) (consO (lstO (consO (callO (a2 m_accepts) (consO (some x47) (consO (some u81) (some [])))) (consO (callO (fun xs => if xs.length = 2 then (a2 m_accepts) xs.reverse else none) (consO (some u81) (consO (some x47) (some [])))) (some [])))) (some []))) (callO (c1 reprV) (consO (lstO (consO (some x98) (consO (some x98) (some [])))) (some [])))))) (pureS (some (U.bl false))) (bindS (pureS (op2 addV (some x93) (op2 mulV (lstO (consO (some u81) (some []))) (callO (c1 intV) (consO (some x98) (some [])))))) fun x119 => (m_law_right_l2 x38 x47 kL59 l82 (x119)))))
def m_law_right_l1 (kL1 : SM U) : List U → SM U
  | [] => kL1
  | u24 :: l25 => (bindS (bindS (consS (opS addV (pureS (some (U.int 2))) (bindS (pureS (consO (some (U.int 7)) (some []))) fun xs => callM 0 (b1 m_law_pull) xs)) (consS (pureS (some (U.int 6))) (pureS (some [])))) fun xs => callM 0 (b2 m_law_rows) xs) fun x38 => (bindS (pureS (consO (tupO (consO (some (U.str "lacks")) (consO (callO (a1 m_law_text) (consO (some x38) (some []))) (some [])))) (consO (lstO (some [])) (some [])))) fun xs => parS xs fun x47 x48 => (withK (fun x131 => (ifS (pureS (testO (op2 neV2 (op2 eqV2 (some x131) (lstO (some []))) (op2 neV2 (callO (a1 m_law_choices) (consO (some x38) (some []))) (lstO (some [])))))) (pureS (some (U.bl false))) (withK (m_law_right_l1 kL1 l25) fun kL152 => (bindS (pureS (rngO rng1 (consO (some (U.int 12)) (some [])))) fun xs155 => m_law_right_l3 x38 x47 x131 kL152 xs155)))) fun kL59 => (bindS (pureS (iterO U.iter (callO (a1 m_law_lots) (consO (some x38) (some []))))) fun xs62 => m_law_right_l2 x38 x47 kL59 xs62 (x48)))))
theorem sc_law_right : FnScope N_law_right ["_law_urn_here"] (defScope s_law_right) := ⟨rfl, rfl, rfl, by decide +kernel, rfl, by decide +kernel, by decide +kernel⟩
def m_law_right : SM U := (withK (pureS (some (U.bl true))) fun kL1 => (bindS (pureS (rngO rng1 (consO (some (U.int 5)) (some [])))) fun xs4 => m_law_right_l1 kL1 xs4))
theorem ok_law_right (T : Tx w K mg a d) : FnG P w K mg base CX0 6 (a 50) (d 50) ["_law_urn_here"] (spS (b0 m_law_right)) := by
  refine Fun.okG T.f_law_right sc_law_right (fun vs H Q E h => ?_) (fun cdv A outer s H vs Q E hgd hr h => ?_)
  · obtain ⟨B, p, u, R, rfl, _⟩ := ss0 h
    rfl
  · obtain ⟨B, p, u, R, rfl, sB, W, hM, k⟩ := ss0 h
    have nd := sc_law_right.nd
    refine ⟨_, (pss_cons (ps_for PassesOwn.never rfl (pi_range1 (by rfl) T.b_range (pa_cons pe_int pa_nil)) (pg_name (i := 1) nd rfl (Or.inl rfl)) (pss_cons (ps_set (i := 2) nd rfl (Or.inl rfl) (pe_call (ok_law_rows T) (hr.mono (by decide)) (by rfl) T.g_law_rows T.f_law_rows.kp T.bd_law_rows .nil pass0 (pa_cons (pv 0) (pa_cons (pe_op (op_addK (K := K) rfl) pe_int (pe_call (ok_law_pull T) (hr.mono (by decide)) (by rfl) T.g_law_pull T.f_law_pull.kp T.bd_law_pull .nil pass0 (pa_cons (pv 0) (pa_cons pe_int pa_nil)))) (pa_cons pe_int pa_nil))))) (pss_cons (ps_par (i := 5) (j := 6) (by rfl) nd rfl rfl (by decide) rfl rfl (pa_cons (pe_tup (pa_cons pe_str (pa_cons (pe_call (ok_law_text T) (hr.mono (by decide)) (by rfl) T.g_law_text T.f_law_text.kp T.bd_law_text .nil pass0 (pa_cons (pv 2) pa_nil)) pa_nil))) (pa_cons (pe_lst pa_nil) pa_nil)) (by rfl)) (pss_cons (ps_for PassesOwn.never rfl (pi_anyK (K := K) rfl (pe_call (ok_law_lots T) (hr.mono (by decide)) (by rfl) T.g_law_lots T.f_law_lots.kp T.bd_law_lots .nil pass0 (pa_cons (pv 2) pa_nil))) (pg_name (i := 3) nd rfl (Or.inl rfl)) (pss_cons (ps_set (i := 7) nd rfl (Or.inl rfl) (pe_call (ok_law_lacks T) (hr.mono (by decide)) (by rfl) T.g_law_lacks T.f_law_lacks.kp T.bd_law_lacks .nil pass0 (pa_cons (pv 2) (pa_cons (pv 3) pa_nil)))) (pss_cons (ps_if (pt_cmpR (op_neU hr.units) (pe_callB (call_reprK (K := K) rfl hgd hr.units) (by rfl) T.b_repr bb_repr (pa_cons (pe_lst (pa_cons (pe_call (ok_accepts T) (hr.mono (by decide)) (by rfl) T.g_accepts T.f_accepts.kp T.bd_accepts .nil pass0 (pa_cons (pv 5) (pa_cons (pv 3) pa_nil))) (pa_cons (pe_callN0 (ok_accepts T) (hr.mono (by decide)) (by rfl) T.g_accepts T.f_accepts.kp (kb2r T.f_accepts (fun _ _ _ _ _ _ _ _ => rfl)) pass0 (pk_cons (pv 3) (pk_cons (pv 5) pk_nil))) pa_nil))) pa_nil)) (pe_callB (call_reprK (K := K) rfl hgd hr.units) (by rfl) T.b_repr bb_repr (pa_cons (pe_lst (pa_cons (pv 7) (pa_cons (pv 7) pa_nil))) pa_nil)) (nomark _)) (pss_cons (ps_ret pe_bl) pss_nil) pss_nil) (pss_cons (ps_set (i := 6) nd rfl (Or.inl rfl) (pe_op (op_addK (K := K) rfl) (pv 6) (pe_op op_mulU (pe_lst (pa_cons (pv 3) pa_nil)) (pe_callTy call_int1 (by rfl) T.b_int bb_int (pa_cons (pv 7) pa_nil))))) pss_nil)))) (pss_cons (ps_if (pt_cmpR (op_neU hr.units) (pe_cmpR (op_eqU hr.units) (pv 6) (pe_lst pa_nil) (nomark _)) (pe_cmpR (op_neU hr.units) (pe_call (ok_law_choices T) (hr.mono (by decide)) (by rfl) T.g_law_choices T.f_law_choices.kp T.bd_law_choices .nil pass0 (pa_cons (pv 2) pa_nil)) (pe_lst pa_nil) (nomark _)) (nomark _)) (pss_cons (ps_ret pe_bl) pss_nil) pss_nil) (pss_cons (ps_for PassesOwn.never rfl (pi_range1 (by rfl) T.b_range (pa_cons pe_int pa_nil)) (pg_name (i := 4) nd rfl (Or.inl rfl)) (pss_cons (ps_set (i := 8) nd rfl (Or.inl rfl) (pe_call (ok_law_bent_lot T) (hr.mono (by decide)) (by rfl) T.g_law_bent_lot T.f_law_bent_lot.kp T.bd_law_bent_lot .nil pass0 (pa_cons (pv 0) (pa_cons (pv 2) (pa_cons (pe_call (ok_law_of T) (hr.mono (by decide)) (by rfl) T.g_law_of T.f_law_of.kp T.bd_law_of .nil pass0 (pa_cons (pv 0) (pa_cons (pe_op (op_addK (K := K) rfl) (pe_call (ok_law_lots T) (hr.mono (by decide)) (by rfl) T.g_law_lots T.f_law_lots.kp T.bd_law_lots .nil pass0 (pa_cons (pv 2) pa_nil)) (pv 6)) pa_nil))) pa_nil))))) (pss_cons (ps_if (pt_cmpR (op_neU hr.units) (pe_callB (call_reprK (K := K) rfl hgd hr.units) (by rfl) T.b_repr bb_repr (pa_cons (pe_call (ok_accepts T) (hr.mono (by decide)) (by rfl) T.g_accepts T.f_accepts.kp T.bd_accepts .nil pass0 (pa_cons (pv 5) (pa_cons (pv 8) pa_nil))) pa_nil)) (pe_callB (call_reprK (K := K) rfl hgd hr.units) (by rfl) T.b_repr bb_repr (pa_cons (pe_call (ok_law_lacks T) (hr.mono (by decide)) (by rfl) T.g_law_lacks T.f_law_lacks.kp T.bd_law_lacks .nil pass0 (pa_cons (pv 2) (pa_cons (pv 8) pa_nil))) pa_nil)) (nomark _)) (pss_cons (ps_ret pe_bl) pss_nil) pss_nil) pss_nil))) pss_nil)))))) (pss_cons (ps_ret pe_bl) pss_nil)), ?_⟩
    exact (q_withS hM fun kL1 ekL2 h3 => q_forS W (eis_of (H := H) (ei_rng1 (ea_cons eo_int ea_nil))) h3 fun xs4 B5 H6 us8 W9 s10 h7 => ⟨fun l11 sg12 B13 H14 => ∃ (o15 : Option V) (o16 : Option V) (o17 : Option V) (o18 : Option V) (o19 : Option V) (o20 : Option V) (o21 : Option V) (o22 : Option V) (us23 : List U), sg12 = [some (.ref p), o15, o16, o17, o18, o19, o20, o21, o22] ∧ Same B5 B13 ∧ Wh (bsM B H p) B13 H14 [p] us23 ∧ m_law_right_l1 kL1 l11 us23 = some R, ⟨_, _, _, _, _, _, _, _, us8, rfl, Same.refl _, W9, h7⟩, fun _ _ _ _ ⟨_, _, _, _, _, _, _, _, _, _, sX, WX, _⟩ => ⟨sX, WX.s⟩, fun u24 l25 v26 sg227 B27 H28 B29 H30 hR g31 r32 => (by obtain ⟨_, _, _, _, _, _, _, _, us36, rfl, s34, W37, h35⟩ := hR; exact (q_asgS (W37.go g31) (es_callM (j := 0) rfl rfl (eas_cons (es_op2 rv_add (es_of (H := H) eo_int) (es_callM (j := 0) rfl rfl (eas_of (H := H) (ea_cons eo_int ea_nil)))) (eas_cons (es_of (H := H) eo_int) eas_nil))) h35 fun x38 v39 B40 H41 us44 W45 s46 r43 h42 => (q_parS W45 (eas_of (H := H) (ea_cons (eo_tup (ea_cons eo_str (ea_cons (eo_call (ea_cons (eo_var rfl r43) ea_nil)) ea_nil))) (ea_cons (eo_lst ea_nil) ea_nil))) h42 fun x47 x48 v49 v50 B51 H52 us56 W57 s58 r53 r54 h55 => (q_withS h55 fun kL59 ekL60 h61 => q_forS W57 (eis_of (H := H) (ei_any (eo_call (ea_cons (eo_var rfl (r43.sm s58)) ea_nil)))) h61 fun xs62 B63 H64 us66 W67 s68 h65 => ⟨fun l69 sg70 B71 H72 => ∃ (o73 : Option V) (o74 : Option V) (o75 : Option V) (x76 : U) (v77 : V) (o78 : Option V) (o79 : Option V) (us80 : List U), sg70 = [some (.ref p), o73, some v39, o74, o75, some v49, some v77, o78, o79] ∧ Same B63 B71 ∧ Rp B71 x76 v77 ∧ Wh (bsM B H p) B71 H72 [p] us80 ∧ m_law_right_l2 x38 x47 kL59 l69 x76 us80 = some R, ⟨_, _, _, x48, _, _, _, us66, rfl, Same.refl _, (r54.sm s68), W67, h65⟩, fun _ _ _ _ ⟨_, _, _, _, _, _, _, _, _, sX, _, WX, _⟩ => ⟨sX, WX.s⟩, fun u81 l82 v83 sg217 B84 H85 B86 H87 hR g88 r89 => (by obtain ⟨_, _, _, x93, v94, _, _, us96, rfl, s91, r95, W97, h92⟩ := hR; exact (q_asgS (W97.go g88) (es_of (H := H) (eo_call (ea_cons (eo_var rfl ((((r43.sm s58).sm s68).sm s91).up g88)) (ea_cons (eo_var rfl r89) ea_nil)))) h92 fun x98 v99 B100 H101 us104 W105 s106 r103 h102 => (q_ifS W105 (ets_of (H := H) (et_test (eo_op2 rv_ne (eo_cb' rc_repr (ea_cons (eo_lst (ea_cons (eo_call (ea_cons (eo_var rfl ((((r53.sm s68).sm s91).up g88).sm s106)) (ea_cons (eo_var rfl (r89.sm s106)) ea_nil))) (ea_cons (eo_callR (ea_cons (eo_var rfl (r89.sm s106)) (ea_cons (eo_var rfl ((((r53.sm s68).sm s91).up g88).sm s106)) ea_nil))) ea_nil))) ea_nil)) (eo_cb' rc_repr (ea_cons (eo_lst (ea_cons (eo_var rfl r103) (ea_cons (eo_var rfl r103) ea_nil))) ea_nil))))) h102 (fun B107 H108 us113 W114 s115 h109 => (q_retS W114 (es_of (H := H) eo_bl) h109 k)) (fun B110 H111 us116 W117 s118 h112 => (q_asgS W117 (es_of (H := H) (eo_op2 rv_add (eo_var rfl (((r95.up g88).sm s106).sm s118)) (eo_op2 rv_mul (eo_lst (ea_cons (eo_var rfl ((r89.sm s106).sm s118)) ea_nil)) (eo_cb' rc_int (ea_cons (eo_var rfl (r103.sm s118)) ea_nil))))) h112 fun x119 v120 B121 H122 us125 W126 s127 r124 h123 => ⟨_, _, _, _, x119, _, _, _, _, rfl, ((((s91.trans g88.b).trans s106).trans s118).trans s127), r124, W126, h123⟩))))), fun sg136 B137 H138 hR => (by obtain ⟨_, _, _, x131, v132, _, _, us134, rfl, s129, r133, W135, h130⟩ := hR; have h139 : kL59 x131 us134 = some R := h130; subst ekL60; exact (q_ifS W135 (ets_of (H := H) (et_test (eo_op2 rv_ne (eo_op2 rv_eq (eo_var rfl r133) (eo_lst ea_nil)) (eo_op2 rv_ne (eo_call (ea_cons (eo_var rfl (((r43.sm s58).sm s68).sm s129)) ea_nil)) (eo_lst ea_nil))))) h139 (fun B140 H141 us146 W147 s148 h142 => (q_retS W147 (es_of (H := H) eo_bl) h142 k)) (fun B143 H144 us149 W150 s151 h145 => (q_withS h145 fun kL152 ekL153 h154 => q_forS W150 (eis_of (H := H) (ei_rng1 (ea_cons eo_int ea_nil))) h154 fun xs155 B156 H157 us159 W160 s161 h158 => ⟨fun l162 sg163 B164 H165 => ∃ (o166 : Option V) (o167 : Option V) (o168 : Option V) (o169 : Option V) (o170 : Option V) (us171 : List U), sg163 = [some (.ref p), o166, some v39, o167, o168, some v49, some v132, o169, o170] ∧ Same B156 B164 ∧ Wh (bsM B H p) B164 H165 [p] us171 ∧ m_law_right_l3 x38 x47 x131 kL152 l162 us171 = some R, ⟨_, _, _, _, _, us159, rfl, Same.refl _, W160, h158⟩, fun _ _ _ _ ⟨_, _, _, _, _, _, _, sX, WX, _⟩ => ⟨sX, WX.s⟩, fun u172 l173 v174 sg216 B175 H176 B177 H178 hR g179 r180 => (by obtain ⟨_, _, _, _, _, us184, rfl, s182, W185, h183⟩ := hR; exact (q_asgS (W185.go g179) (es_callM (j := 0) rfl rfl (eas_cons (es_of (H := H) (eo_var rfl (((((((r43.sm s58).sm s68).sm s129).sm s151).sm s161).sm s182).up g179))) (eas_cons (es_callM (j := 0) rfl rfl (eas_of (H := H) (ea_cons (eo_op2 rv_add (eo_call (ea_cons (eo_var rfl (((((((r43.sm s58).sm s68).sm s129).sm s151).sm s161).sm s182).up g179)) ea_nil)) (eo_var rfl ((((r133.sm s151).sm s161).sm s182).up g179))) ea_nil))) eas_nil))) h183 fun x186 v187 B188 H189 us192 W193 s194 r191 h190 => (q_ifS W193 (ets_of (H := H) (et_test (eo_op2 rv_ne (eo_cb' rc_repr (ea_cons (eo_call (ea_cons (eo_var rfl (((((((r53.sm s68).sm s129).sm s151).sm s161).sm s182).up g179).sm s194)) (ea_cons (eo_var rfl r191) ea_nil))) ea_nil)) (eo_cb' rc_repr (ea_cons (eo_call (ea_cons (eo_var rfl ((((((((r43.sm s58).sm s68).sm s129).sm s151).sm s161).sm s182).up g179).sm s194)) (ea_cons (eo_var rfl r191) ea_nil))) ea_nil))))) h190 (fun B195 H196 us201 W202 s203 h197 => (q_retS W202 (es_of (H := H) eo_bl) h197 k)) (fun B198 H199 us204 W205 s206 h200 => ⟨_, _, _, _, _, _, _, rfl, (((s182.trans g179.b).trans s194).trans s206), W205, h200⟩)))), fun sg212 B213 H214 hR => (by obtain ⟨_, _, _, _, _, us210, rfl, s208, W211, h209⟩ := hR; have h215 : kL152 us210 = some R := h209; subst ekL153; exact ⟨_, _, _, _, _, _, _, _, _, _, rfl, ((((((((s34.trans g31.b).trans s46).trans s58).trans s68).trans s129).trans s151).trans s161).trans s208), W211, h215⟩)⟩))))⟩)))), fun sg223 B224 H225 hR => (by obtain ⟨_, _, _, _, _, _, _, _, us221, rfl, s219, W222, h220⟩ := hR; have h226 : kL1 us221 = some R := h220; subst ekL2; exact (q_retS W222 (es_of (H := H) eo_bl) h226 k))⟩)
/-! law -/
abbrev s_law : Stmt := top 51
abbrev N_law : List Str := ["_law_script", "_law_turn"]
theorem sc_law : FnScope N_law ["_law_script"] (defScope s_law) := ⟨rfl, rfl, rfl, by decide +kernel, rfl, by decide +kernel, by decide +kernel⟩
def m_lawS (p0 : U) : SM U := (callS (c1 allV) (consS (keepN (lcS (fun u4 => (pureS (some true))) (fun u4 => (callF (b0 m_law_right) (callS (a2 m_law_urn) (pureS (consO (some p0) (consO (some u4) (some []))))) (pureS (some [])))) (pureS (rngO rng1 (consO (callO maxA (consO (some (U.int 2)) (consO (callO minU (consO (callO lenV (consO (some p0) (some []))) (consO (some (U.int 5)) (some [])))) (some [])))) (some [])))))) (pureS (some []))))
def m_law (p0 : U) : Option U := runS (m_lawS p0)
theorem ok_law (T : Tx w K mg a d) : FnG P w K mg base CX0 7 (a 51) (d 51) ["_law_script"] (spU (a1 m_law)) := by
  refine Fun.okG T.f_law sc_law (fun vs H Q E h => ?_) (fun cdv A outer s H vs Q E hgd hr h => ?_)
  · obtain ⟨B, p0, vp0, r, rfl, _⟩ := sp1 h
    rfl
  · obtain ⟨B, p0, vp0, r, rfl, sB, rp0, hM, k⟩ := sp1 h
    have nd := sc_law.nd
    obtain ⟨R, hM2, rfl⟩ := runS_some hM
    clear hM
    have k := fun v B2 H2 ps2 (W : Wh (bsU B H) B2 H2 ps2 R.2) r => k v B2 H2 W.pure r
    refine ⟨_, (pss_cons (ps_ret (pe_callB (cr_allK (K := K) rfl rfl) (by rfl) T.b_all bb_all (pa_cons (pe_lc (own := [("_law_turn", 1)]) (g := gName 1) (tt := tYes) (by rfl) nd (pi_range1 (by rfl) T.b_range (pa_cons (pe_callB (call_maxK (K := K) rfl rfl) (by rfl) T.b_max bb_max (pa_cons pe_int (pa_cons (pe_callB (call_min2 rfl) (by rfl) T.b_min bb_min (pa_cons (pe_callB (call_lenK (K := K) rfl) (by rfl) T.b_len bb_len (pa_cons (pv 0) pa_nil)) (pa_cons pe_int pa_nil))) pa_nil))) pa_nil)) (blkOk_by (own := [("_law_turn", 1)]) (N := N_law) (sc := defScope s_law) (by decide +kernel)) (fun _ _ _ _ _ => pg_name (i := 1) nd rfl (Or.inl rfl)) (fun _ _ _ _ _ => pts_nil) (fun _ _ _ _ _ => (pe_callG (ok_law_right T) hgd (hr.mono (by decide)) (by rfl) T.g_law_right T.f_law_right.kp T.bd_law_right .nil pass0 (pa_cons (pe_call (ok_law_urn T) (hr.mono (by decide)) (by rfl) T.g_law_urn T.f_law_urn.kp T.bd_law_urn .nil pass0 (pa_cons (pv 0) (pa_cons (pv 1) pa_nil))) pa_nil)))) pa_nil))) pss_nil), ?_⟩
    exact (q_retS (wh_pure sB) (es_cb rc_all (eas_cons (es_ofN (en_lc (eis_of (H := H) (ei_rng1 (ea_cons (eo_cb' rc_maxA (ea_cons eo_int (ea_cons (eo_cb' rc_min (ea_cons (eo_cb' rc_len (ea_cons (eo_var rfl rp0) ea_nil)) (ea_cons eo_int ea_nil))) ea_nil))) ea_nil))) (fun _ => rfl) (fun u4 v5 B2 H3 g1 r6 => (ets_of (H := H) et_yes)) (fun u4 v5 B2 H3 g1 r6 => (es_callF (H := H) (en_call (eas_of (H := H) (ea_cons (eo_var rfl (rp0.upA g1)) (ea_cons (eo_var rfl r6) ea_nil)))) ea_nil)))) eas_nil)) hM2 k)
end
end K53
set_option Elab.async false
set_option linter.all false
set_option maxRecDepth 100000
set_option maxHeartbeats 2000000
namespace K53
open PySem L2 Dn
/-- an urn -/
def Urn (u : U) : Prop := ∃ a b c : Int, u = .frl [.int a, .int b, .int c]
theorem Urn.own {u : U} (h : Urn u) : u.own = true := by obtain ⟨a, b, c, rfl⟩ := h; rfl
theorem Urn.plc {u : U} (h : Urn u) : u.plc = true := by obtain ⟨a, b, c, rfl⟩ := h; rfl
theorem pull_ok {u : U} {n : Int} (hu : Urn u) (h0 : 0 < n) (h1 : n < 1073741824) : ∃ r u', b1 m_law_pull u [.int n] = some (.int r, u') ∧ Urn u' ∧ 0 ≤ r ∧ r < n := by
  obtain ⟨a, b, c, rfl⟩ := hu
  show ∃ r u', finS (m_law_pull (.int n) [.frl [.int a, .int b, .int c]]) = some (.int r, u') ∧ Urn u' ∧ 0 ≤ r ∧ r < n
  have e1 : ∀ b : Int, mulV (.int b) (.int 39409) = some (.int (b * 39409)) := fun b => mulV_r (by decide)
  have e2 : ∀ b : Int, mulV (.int 7001) (.int b) = some (.int (7001 * b)) := fun b => mulV_l (by decide)
  have e3 : ∀ b : Int, modV (.int b) (.int 2147482661) = some (.int (b % 2147482661)) := fun b => modV_i (by decide)
  have e4 : ∀ b : Int, fdivV (.int b) (.int 768) = some (.int (b / 768)) := fun b => fdivV_i (by decide)
  have e5 : ∀ b : Int, modV (.int b) (.int n) = some (.int (b % n)) := fun b => modV_i h0
  have e6 : ∀ b : Int, divmodU [.int b, .int n] = some (.tup [.int (b / n), .int (b % n)]) := fun b => divmod_i ⟨h0, h1⟩
  have hr : ∀ i : Int, 0 ≤ i % n ∧ i % n < n := fun i => ⟨Int.emod_nonneg i (by omega), Int.emod_lt_of_pos i h0⟩
  by_cases ha : 0 < a
  · refine ⟨a % n, .frl [.int (a / n), .int b, .int (c + 1)], ?_, ⟨_, _, _, rfl⟩, (hr a).1, (hr a).2⟩
    unfold m_law_pull
    simp [bindS, opS, lockO, U.own, U.pl, getV, atI, ixN, setLS, ifS, testS, callS, consS, ha, e6, unpS, unp2, finS, U.asB]
  · refine ⟨((b * 39409 + 7001 * (c + 1) + 9) % 2147482661) / 768 % n, .frl [.int a, .int ((b * 39409 + 7001 * (c + 1) + 9) % 2147482661), .int (c + 1)], ?_, ⟨_, _, _, rfl⟩, (hr _).1, (hr _).2⟩
    unfold m_law_pull
    simp [bindS, opS, lockO, U.own, U.pl, getV, atI, ixN, setLS, ifS, testS, callS, consS, ha, e1, e2, e3, e4, e5, unpS, unp2, finS, U.asB]

theorem pull_at {u : U} {t : List U} {n : Int} (hu : Urn u) (h0 : 0 < n) (h1 : n < 1073741824) : ∃ r u', callM 0 (b1 m_law_pull) [.int n] (u :: t) = some (.int r, u' :: t) ∧ Urn u' ∧ 0 ≤ r ∧ r < n := by
  obtain ⟨r, u', e, h⟩ := pull_ok hu h0 h1
  exact ⟨r, u', callM_s rfl hu.own e, h⟩
theorem of_ok {u : U} {xs : List U} (hu : Urn u) (hx : xs ≠ []) (hl : xs.length ≤ lim) : ∃ x u', b1 m_law_of u [.lst xs] = some (x, u') ∧ Urn u' ∧ x ∈ xs := by
  have hp : 0 < xs.length := List.length_pos_iff.mpr hx
  have hlim : lim < 1073741824 := by decide
  obtain ⟨r, u', e, hu', h0, h1⟩ := pull_at (t := []) (n := (xs.length : Int)) hu (by omega) (by omega)
  obtain ⟨x, ex, hx2⟩ := atI_int h0 h1
  refine ⟨x, u', ?_, hu', List.mem_of_getElem? hx2⟩
  show finS (m_law_of (.lst xs) [u]) = _
  unfold m_law_of
  have e2 : opS getV (pureS (some (U.lst xs))) (bindS (pureS (consO (callO lenV (consO (some (U.lst xs)) (some []))) (some []))) fun xs => callM 0 (b1 m_law_pull) xs) [u] = some (x, [u']) := opS_s rfl e ex
  rw [e2]
  simp [finS, hu'.own]
theorem of_at {u : U} {t : List U} {xs : List U} (hu : Urn u) (hx : xs ≠ []) (hl : xs.length ≤ lim) : ∃ x u', callM 0 (b1 m_law_of) [.lst xs] (u :: t) = some (x, u' :: t) ∧ Urn u' ∧ x ∈ xs := by
  obtain ⟨r, u', e, h⟩ := of_ok hu hx hl
  exact ⟨r, u', callM_s rfl hu.own e, h⟩
/-! ### names -/
def txs (ss : List Str) : List U := ss.map U.str
theorem perm_erase {α : Type} : ∀ (l : List α) (k : Nat) (h : k < l.length), (l[k] :: l.eraseIdx k).Perm l
  | [], k, h => absurd h (Nat.not_lt_zero _)
  | x :: l, 0, _ => .refl _
  | x :: l, k + 1, h => (List.Perm.swap x (l[k]'(by simpa using h)) _).trans ((perm_erase l k (by simpa using h)).cons x)
theorem er_map {α β : Type} (f : α → β) : ∀ (l : List α) (k : Nat), (l.map f).eraseIdx k = (l.eraseIdx k).map f
  | [], _ => rfl
  | x :: l, 0 => rfl
  | x :: l, k + 1 => by
    show f x :: (l.map f).eraseIdx k = f x :: (l.eraseIdx k).map f
    rw [er_map f l k]
theorem words_l1 {k : SM U} : ∀ (l : List U) (u : U) (pool found : List Str), Urn u → l.length ≤ pool.length → found.length + l.length ≤ 1000 → pool.length < 1000 →
    ∃ u' pool' found', m_law_words_l1 k l [u, .frl (txs pool), .frl (txs found)] = k [u', .frl (txs pool'), .frl (txs found')] ∧ Urn u' ∧ (pool' ++ found').Perm (pool ++ found) ∧ found'.length = found.length + l.length
  | [], u, pool, found, hu, _, _, _ => ⟨u, pool, found, rfl, hu, .refl _, rfl⟩
  | x :: l, u, pool, found, hu, hl, hf, hp => by
    rw [List.length_cons] at hl hf
    obtain ⟨r, u1, e, hu1, h0, h1⟩ := pull_at (t := [.frl (txs pool), .frl (txs found)]) (n := (pool.length : Int)) hu (by omega) (by omega)
    have hk : r.toNat < pool.length := by omega
    have hb : -(2 ^ 63) ≤ r ∧ r < 2 ^ 63 := by omega
    obtain ⟨u2, pool2, found2, e2, hu2, hp2, hf2⟩ := words_l1 (k := k) l u1 (pool.eraseIdx r.toNat) (found ++ [pool[r.toNat]]) hu1 (by rw [List.length_eraseIdx_of_lt hk]; omega) (by rw [List.length_append, List.length_singleton]; omega) (by rw [List.length_eraseIdx_of_lt hk]; omega)
    refine ⟨u2, pool2, found2, ?_, hu2, hp2.trans ?_, by rw [hf2, List.length_append, List.length_singleton, List.length_cons]; omega⟩
    · rw [← e2]
      have e3 : bindS (consS (lockO 1 fun u46 => (callO lenV (consO (some u46) (some [])))) (pureS (some []))) (fun xs => callM 0 (b1 m_law_pull) xs) [u, .frl (txs pool), .frl (txs found)] = some (.int r, [u1, .frl (txs pool), .frl (txs found)]) := by
        rw [bindS_s (consS_s (lockO_s (z := .int pool.length) rfl rfl (by simp [lenV, txs]) rfl) rfl)]
        exact e
      have e4 : popS 1 (.int r) [u1, .frl (txs pool), .frl (txs found)] = some (.str pool[r.toNat], [u1, .frl (txs (pool.eraseIdx r.toNat)), .frl (txs found)]) := by
        have hsi : seqIndex? r pool.length = some r.toNat := seqIndex_of h0 (by omega)
        simp only [popS, List.getElem?_cons_succ, List.getElem?_cons_zero, if_pos hb, txs, List.length_map, hsi, Option.bind_some, List.getElem?_map, List.getElem?_eq_getElem hk, Option.map_some, er_map]
        rfl
      have e5 : appS 2 (.str pool[r.toNat]) [u1, .frl (txs (pool.eraseIdx r.toNat)), .frl (txs found)] = some (.non, [u1, .frl (txs (pool.eraseIdx r.toNat)), .frl (txs (found ++ [pool[r.toNat]]))]) := by
        have : (txs found).length < lim := by simp [txs]; have : lim = 100000 := rfl; omega
        show (if (txs found).length < lim then some (U.non, [u1, U.frl (txs (pool.eraseIdx r.toNat)), U.frl (txs found)].set 2 (.frl (txs found ++ [.str pool[r.toNat]]))) else none) = _
        rw [if_pos this]
        simp [txs]
      show bindS _ _ _ = _
      rw [bindS_s (bindS_s (bindS_s e3 |>.trans e4) |>.trans e5)]
    · have q : (pool[r.toNat] :: pool.eraseIdx r.toNat).Perm pool := perm_erase pool r.toNat hk
      have q1 : (pool.eraseIdx r.toNat ++ (found ++ [pool[r.toNat]])).Perm (pool[r.toNat] :: (pool.eraseIdx r.toNat ++ found)) := by
        rw [← List.append_assoc]
        exact List.perm_append_singleton _ _
      exact q1.trans (q.append_right found)
def POOL : List Str := ["a", "b", "c", "d", "e", "f", "g", "h", "ab", "ba", "none", "web", "abcdefgh", "z", "zz", "count"]
theorem pool_nodup : POOL.Nodup := by decide +kernel
theorem words_ok {u : U} {n : Nat} (hu : Urn u) (hn : n ≤ 16) : ∃ ws u', b1 m_law_words u [.int n] = some (.lst (txs ws), u') ∧ Urn u' ∧ ws.length = n ∧ ws.Nodup ∧ ∀ w ∈ ws, w ∈ POOL := by
  obtain ⟨u', pool', found', e, hu', hp, hl⟩ := words_l1 (k := takeS 2) (rangeU 0 n) u POOL [] hu (by simp [rangeU, POOL]; exact hn) (by simp [rangeU]; omega) (by decide)
  rw [List.append_nil] at hp
  have nd := hp.nodup_iff.mpr pool_nodup
  refine ⟨found', u', ?_, hu', by simpa [rangeU] using hl, (List.nodup_append.mp nd).2.1, fun w hw => hp.mem_iff.mp (List.mem_append_right _ hw)⟩
  show finS (m_law_words (.int n) [u]) = _
  have er : rng1 [.int (n : Int)] = some (rangeU 0 n) := by
    show (if (n : Int) ≤ 100000 ∧ -100000 ≤ (n : Int) then some (rangeU 0 (n : Int).toNat) else none) = _
    rw [if_pos (by omega)]; rfl
  have em : m_law_words (.int n) [u] = m_law_words_l1 (takeS 2) (rangeU 0 n) [u, .frl (txs POOL), .frl (txs [])] := by
    unfold m_law_words
    simp only [consO_s, rngO_s, er]
    rfl
  rw [em, e]
  simp [takeS, finS, hu'.own]

abbrev tl (x : Str) : List Nat := x.cps.toList
/-! ### rows of a web -/
abbrev Row := Str × List Str
def rowU (r : Row) : U := .tup [.str r.1, .tup (txs r.2)]
def rowsU (rs : List Row) : List U := rs.map rowU
abbrev names (rs : List Row) : List Str := rs.map (·.1)
abbrev srcs (rs : List Row) : List Str := rs.flatMap (·.2)
def cnt (rs : List Row) (n : Str) : Nat := (srcs rs).count n
def Word (w : Str) : Prop := 0 < (tl w).length ∧ (tl w).length ≤ 8 ∧ ∀ c ∈ tl w, 97 ≤ c ∧ c ≤ 122
theorem pool_words : ∀ w ∈ POOL, Word w := by
  have : ∀ w ∈ POOL, (decide (0 < (tl w).length) && decide ((tl w).length ≤ 8) && (tl w).all fun c => decide (97 ≤ c) && decide (c ≤ 122)) = true := by decide +kernel
  intro w hw
  have h := this w hw
  simp only [Bool.and_eq_true, decide_eq_true_eq, List.all_eq_true] at h
  exact ⟨h.1.1, h.1.2, h.2⟩
inductive Web : List Row → Prop
  | one {w : Str} : Word w → Web [(w, [])]
  | snoc {rs : List Row} {w : Str} {ss : List Str} : Web rs → Word w → w ∉ names rs → ss ≠ [] → ss.length ≤ 2 → ss.Nodup → (∀ s ∈ ss, s ∈ names rs ∧ cnt rs s < 2) → Web (rs ++ [(w, ss)])
theorem cnt_snoc {rs : List Row} {w n : Str} {ss : List Str} : cnt (rs ++ [(w, ss)]) n = cnt rs n + ss.count n := by
  simp [cnt, srcs, List.flatMap_append, List.count_append]
theorem names_snoc {rs : List Row} {w : Str} {ss : List Str} : names (rs ++ [(w, ss)]) = names rs ++ [w] := by simp [names]
theorem Web.src {rs : List Row} (h : Web rs) : ∀ s ∈ srcs rs, s ∈ names rs := by
  induction h with
  | one _ => intro s hs; simp [srcs] at hs
  | snoc _ _ _ _ _ _ hs ih =>
    intro s h
    simp only [srcs, List.flatMap_append, List.mem_append, List.flatMap_cons, List.flatMap_nil, List.append_nil] at h
    rw [names_snoc, List.mem_append]
    rcases h with h | h
    · exact .inl (ih s h)
    · exact .inl (hs s h).1
theorem Web.nodup {rs : List Row} (h : Web rs) : (names rs).Nodup := by
  induction h with
  | one _ => simp [names]
  | snoc _ _ hn _ _ _ _ ih =>
    rw [names_snoc, List.nodup_append]
    exact ⟨ih, by simp, fun a ha b hb e => by simp at hb; subst hb; exact hn (e ▸ ha)⟩
theorem Web.two {rs : List Row} (h : Web rs) : ∀ n, cnt rs n ≤ 2 := by
  induction h with
  | one _ => intro n; simp [cnt, srcs]
  | @snoc rs w ss _ _ _ _ _ nd hs ih =>
    intro n
    rw [cnt_snoc]
    by_cases hn : n ∈ ss
    · have := (hs n hn).2
      have h1 : ss.count n ≤ 1 := List.nodup_iff_count.mp nd n
      omega
    · rw [List.count_eq_zero.mpr hn]; exact ih n
theorem Web.ne {rs : List Row} (h : Web rs) : rs ≠ [] := by cases h <;> simp
theorem Web.words {rs : List Row} (h : Web rs) : ∀ w ∈ names rs, Word w := by
  induction h with
  | one hw => intro w h; simp [names] at h; subst h; exact hw
  | snoc _ hw _ _ _ _ _ ih =>
    intro n h
    rw [names_snoc, List.mem_append] at h
    rcases h with h | h
    · exact ih n h
    · simp at h; subst h; exact hw
theorem Web.last {rs : List Row} (h : Web rs) : ∃ r0 w ss, rs = r0 ++ [(w, ss)] ∧ ss.length ≤ 2 ∧ ss.Nodup ∧ ∀ s ∈ ss, s ∈ names rs := by
  cases h with
  | @one w _ => exact ⟨[], w, [], rfl, by simp, by simp, fun s h => by cases h⟩
  | @snoc r0 w ss _ _ _ _ h2 nd hs => exact ⟨r0, w, ss, rfl, h2, nd, fun s h => by rw [names_snoc]; exact List.mem_append_left _ (hs s h).1⟩
/-! ### the dict of what is used -/
def used (rs : List Row) : List (Str × Int) := rs.map fun r => (r.1, (cnt rs r.1 : Int))
def dicI (kvs : List (Str × Int)) : List (Key × U) := kvs.map fun kv => (Sum.inr kv.1, U.int kv.2)
theorem lookI {n : Str} {c : Int} : ∀ {kvs : List (Str × Int)}, (kvs.map (·.1)).Nodup → (n, c) ∈ kvs → lookK (dicI kvs) (Sum.inr n) = some (.int c)
  | [], _, h => by cases h
  | (k, v) :: r, nd, h => by
    rw [List.map_cons, List.nodup_cons] at nd
    by_cases e : k = n
    · subst e
      rcases List.mem_cons.mp h with h | h
      · cases h; simp [lookK, dicI]
      · exact absurd (List.mem_map.mpr ⟨_, h, rfl⟩) nd.1
    · have h2 : (n, c) ∈ r := by
        rcases List.mem_cons.mp h with h | h
        · cases h; exact absurd rfl e
        · exact h
      have := lookI nd.2 h2
      simp only [lookK, dicI, List.map_cons, List.find?_cons] at this ⊢
      have e2 : decide ((Sum.inr k : Key) = Sum.inr n) = false := by simp [e]
      rw [e2]
      exact this
theorem used_keys {rs : List Row} : (used rs).map (·.1) = names rs := by simp [used, names]
theorem get_used {rs : List Row} {n : Str} (h : Web rs) (hn : n ∈ names rs) : getV (.dic (dicI (used rs))) (.str n) = some (.int (cnt rs n)) := by
  have hm : (n, (cnt rs n : Int)) ∈ used rs := by
    obtain ⟨r, hr, e⟩ := List.mem_map.mp hn
    exact List.mem_map.mpr ⟨r, hr, by rw [e]⟩
  have := lookI (by rw [used_keys]; exact h.nodup) hm
  show ((U.str n).key.map fun k => lookK (dicI (used rs)) k).bind id = _
  simp [U.key, this]
def freeL (rs : List Row) : List Str := (names rs).filter fun n => decide (cnt rs n < 2)
theorem lcSL_pure {p : U → Option Bool} {q : U → Bool} {us : List U} : ∀ (xs : List U), (∀ x ∈ xs, p x = some (q x)) → lcSL (fun x => pureS (p x)) (fun x => pureS (some x)) xs us = some (xs.filter q, us)
  | [], _ => rfl
  | x :: xs, h => by
    have h1 := h x (List.mem_cons_self ..)
    have ih := lcSL_pure (us := us) xs fun y hy => h y (List.mem_cons_of_mem _ hy)
    unfold lcSL
    cases hq : q x with
    | true =>
      rw [hq] at h1
      simp only [bindS, pureS_s, h1, Option.map_some, Option.bind_some, if_true, ih, List.filter_cons, hq]
    | false =>
      rw [hq] at h1
      simp only [bindS, pureS_s, h1, Option.map_some, Option.bind_some, Bool.false_eq_true, if_false, ih, List.filter_cons, hq]
theorem txs_pl {ss : List Str} : U.pls (txs ss) = true := by
  induction ss with
  | nil => rfl
  | cons s ss ih => simp [txs, U.pls, U.pl] at ih ⊢; exact ih
theorem rows_pl {rs : List Row} : U.pls (rowsU rs) = true := by
  induction rs with
  | nil => rfl
  | cons s ss ih => simp [rowsU, U.pls, U.pl, rowU, txs_pl] at ih ⊢; exact ih
theorem dicI_pl {kvs : List (Str × Int)} : (U.dic (dicI kvs)).plc = true := by simp [U.plc, dicI, U.pl]
theorem rowsU_plc {rs : List Row} : (U.frl (rowsU rs)).plc = true := rows_pl
theorem txs_plc {ss : List Str} : (U.frl (txs ss)).plc = true := txs_pl
theorem txs_length {ss : List Str} : (txs ss).length = ss.length := by simp [txs]
theorem filter_txs {p : Str → Bool} {q : U → Bool} (h : ∀ s, q (.str s) = p s) : ∀ ss : List Str, (txs ss).filter q = txs (ss.filter p)
  | [] => rfl
  | s :: ss => by
    have ih := filter_txs h ss
    simp only [txs, List.map_cons, List.filter_cons, h] at ih ⊢
    split
    · simp [ih]
    · exact ih
theorem free_ok {rs : List Row} {u : U} (hw : Web rs) (hu : Urn u) (hl : rs.length ≤ 1000) :
    lockN 2 (fun u68 => (lcS (fun u74 => (pureS (testO (op2 ltV (op2 getV (some u68) (some u74)) (some (U.int 2)))))) (fun u74 => (pureS (some u74))) (pureS (iterO U.iter (some u68))))) [u, .frl (rowsU rs), .dic (dicI (used rs))]
      = some (.frl (txs (freeL rs)), [u, .frl (rowsU rs), .dic (dicI (used rs))]) := by
  have hk : (dicI (used rs)).map (fun kv => kU kv.1) = txs (names rs) := by simp [dicI, used, txs, names, kU]
  have hq : ∀ x ∈ txs (names rs), testO (op2 ltV (op2 getV (some (.dic (dicI (used rs)))) (some x)) (some (U.int 2))) = some (match x with | .str n => decide (cnt rs n < 2) | _ => false) := fun x hx => by
    obtain ⟨n, hn, rfl⟩ := List.mem_map.mp hx
    rw [op2_s, get_used hw hn, op2_s, ltV_i, testO_s]
    simp only [Option.some.injEq, decide_eq_decide]
    omega
  have hc := lcSL_pure (us := [u, .frl (rowsU rs), .non]) (txs (names rs)) hq
  rw [filter_txs (p := fun n => decide (cnt rs n < 2)) (fun s => rfl)] at hc
  have hlen : (txs (names rs)).length ≤ lim := by simp [txs, names]; have : lim = 100000 := rfl; omega
  have e : lcS (fun u74 => (pureS (testO (op2 ltV (op2 getV (some (U.dic (dicI (used rs)))) (some u74)) (some (U.int 2)))))) (fun u74 => (pureS (some u74))) (pureS (iterO U.iter (some (U.dic (dicI (used rs)))))) [u, .frl (rowsU rs), .non] = some (.frl (txs (freeL rs)), [u, .frl (rowsU rs), .non]) := by
    have ei : iterO U.iter (some (U.dic (dicI (used rs)))) = some (txs (names rs)) := by
      show some _ = _
      rw [hk]
    rw [ei]
    simp only [lcS, bindS_pure, if_pos hlen]
    rw [bindS_s hc]
    rfl
  have hp : ([u, U.frl (rowsU rs), U.non] : List U).all U.plc = true := by
    simp only [List.all_cons, hu.plc, rowsU_plc, List.all_nil]
    rfl
  show ((([u, U.frl (rowsU rs), U.dic (dicI (used rs))] : List U)[2]?).bind _) = _
  simp only [List.getElem?_cons_succ, List.getElem?_cons_zero, Option.bind_some, U.own, if_true, List.set_cons_succ, List.set_cons_zero, e]
  rw [if_pos ⟨txs_plc, hp⟩]
theorem free_mem {rs : List Row} {n : Str} : n ∈ freeL rs ↔ n ∈ names rs ∧ cnt rs n < 2 := by simp [freeL, List.mem_filter]
theorem free_nodup {rs : List Row} (h : Web rs) : (freeL rs).Nodup := h.nodup.filter _

/-! ### a copy that comes -/
def incr (kvs : List (Str × Int)) (ss : List Str) : List (Str × Int) := kvs.map fun kv => (kv.1, kv.2 + (ss.count kv.1 : Nat))
theorem putI {n : Str} {v c : Int} : ∀ {kvs : List (Str × Int)}, (kvs.map (·.1)).Nodup → (n, v) ∈ kvs → putU (dicI kvs) (Sum.inr n) (.int c) = dicI (kvs.map fun kv => if kv.1 = n then (kv.1, c) else kv) := by
  intro kvs nd h
  have ha : ((dicI kvs).any fun kv => decide (kv.1 = Sum.inr n)) = true := by
    rw [List.any_eq_true]
    exact ⟨(Sum.inr n, .int v), List.mem_map.mpr ⟨_, h, rfl⟩, by simp⟩
  unfold putU
  rw [if_pos ha]
  simp only [dicI, List.map_map]
  apply List.map_congr_left
  intro kv _
  simp only [Function.comp_apply, Sum.inr.injEq]
  split <;> rfl
theorem putI_new {n : Str} {c : Int} {kvs : List (Str × Int)} (h : n ∉ kvs.map (·.1)) : putU (dicI kvs) (Sum.inr n) (.int c) = dicI (kvs ++ [(n, c)]) := by
  have ha : ¬ ((dicI kvs).any fun kv => decide (kv.1 = Sum.inr n)) = true := by
    rw [List.any_eq_true]
    rintro ⟨kv, hm, e⟩
    obtain ⟨⟨k, v⟩, hk, rfl⟩ := List.mem_map.mp hm
    simp at e
    exact h (List.mem_map.mpr ⟨_, hk, e⟩)
  unfold putU
  rw [if_neg ha]
  simp [dicI]
theorem incr_nil {kvs : List (Str × Int)} : incr kvs [] = kvs := by simp [incr]
theorem incr_cons {kvs : List (Str × Int)} {n : Str} {v : Int} {ss : List Str} (nd : (kvs.map (·.1)).Nodup) (h : (n, v) ∈ kvs) : incr (kvs.map fun kv => if kv.1 = n then (kv.1, v + 1) else kv) ss = incr kvs (n :: ss) := by
  simp only [incr, List.map_map]
  apply List.map_congr_left
  rintro ⟨k, x⟩ hx
  simp only [Function.comp_apply, List.count_cons]
  by_cases e : k = n
  · subst e
    have : x = v := by
      have h1 := lookI nd hx
      have h2 := lookI nd h
      rw [h1] at h2
      exact U.int.inj (Option.some.inj h2)
    subst this
    simp; omega
  · have e2 : ¬ n = k := fun z => e z.symm
    simp [e, e2]
theorem rows_l2 {x : U} {k : SM U} {u f a b : U} (hu : Urn u) (hf : f.plc = true) : ∀ (ss : List Str) (kvs : List (Str × Int)), (kvs.map (·.1)).Nodup → kvs.length < 1000 → (∀ s ∈ ss, s ∈ kvs.map (·.1)) →
    m_law_rows_l2 x k (txs ss) [u, f, .dic (dicI kvs), a, b] = k [u, f, .dic (dicI (incr kvs ss)), a, b]
  | [], kvs, _, _, _ => by rw [incr_nil]; rfl
  | s :: ss, kvs, nd, hl, hs => by
    obtain ⟨⟨n, v⟩, hm, e⟩ := List.mem_map.mp (hs s (List.mem_cons_self ..))
    have e : n = s := e
    subst e
    have eg : getV (.dic (dicI kvs)) (.str n) = some (.int v) := by
      show ((U.str n).key.map fun k => lookK (dicI kvs) k).bind id = _
      simp [U.key, lookI nd hm]
    have nd2 : ((kvs.map fun kv => if kv.1 = n then (kv.1, v + 1) else kv).map (·.1)) = kvs.map (·.1) := by
      rw [List.map_map]
      apply List.map_congr_left
      intro kv _
      simp only [Function.comp_apply]
      split <;> rfl
    have ih := rows_l2 (x := x) (k := k) (a := a) (b := b) hu hf ss (kvs.map fun kv => if kv.1 = n then (kv.1, v + 1) else kv) (by rw [nd2]; exact nd) (by rw [List.length_map]; exact hl) (fun s hs' => by rw [nd2]; exact hs s (List.mem_cons_of_mem _ hs'))
    rw [incr_cons nd hm] at ih
    rw [← ih]
    have e1 : lockO 2 (fun u229 => (op2 getV (some u229) (some (U.str n)))) [u, f, .dic (dicI kvs), a, b] = some (.int v, [u, f, .dic (dicI kvs), a, b]) := lockO_s rfl rfl eg rfl
    have e2 : putS 2 (.str n) (.int (v + 1)) [u, f, .dic (dicI kvs), a, b] = some (.non, [u, f, .dic (dicI (kvs.map fun kv => if kv.1 = n then (kv.1, v + 1) else kv)), a, b]) := by
      have hlen : (dicI kvs).length < lim := by simp [dicI]; have : lim = 100000 := rfl; omega
      show ((U.str n).key.bind fun kk => if (dicI kvs).length < lim then some (U.non, [u, f, .dic (dicI kvs), a, b].set 2 (.dic (putU (dicI kvs) kk (.int (v + 1))))) else none) = _
      simp only [U.key, Option.bind_some, if_pos hlen, putI nd hm]
      rfl
    show bindS (opS addV (lockO 2 fun u229 => (op2 getV (some u229) (some (U.str n)))) (pureS (some (U.int 1)))) (fun y238 => bindS (pureS (some (U.str n))) fun k239 => bindS (putS 2 k239 y238) fun _ => (m_law_rows_l2 x k (txs ss))) [u, f, .dic (dicI kvs), a, b] = _
    rw [bindS_s (opS_s e1 rfl (addV_i (i := v) (j := 1))), bindS_pure, bindS_s e2]
theorem used_snoc {rs : List Row} {w : Str} {ss : List Str} (h : Web rs) (hw : w ∉ names rs) (hs : w ∉ ss) : incr (used rs ++ [(w, 0)]) ss = used (rs ++ [(w, ss)]) := by
  have c0 : cnt rs w = 0 := List.count_eq_zero.mpr fun z => hw (h.src w z)
  have s0 : ss.count w = 0 := List.count_eq_zero.mpr hs
  simp only [incr, used, List.map_append, List.map_map, List.map_cons, List.map_nil, cnt_snoc, c0, s0]
  congr 1
/-! ### the turn's end -/
def tailR (kL27 : U → SM U) (u51 : U) (l52 : List U) (x63 : U) : SM U := (ifS (lockT 4 fun u388 => (testO (op2 neV2 (some u388) (lstO (some []))))) (bindS (opS addV (opS subV (pureS (some x63)) (lockO 4 fun u403 => (callO lenV (consO (some u403) (some []))))) (pureS (some (U.int 1)))) fun x406 => (bindS (lockS 4 fun u415 => (opS stepV (pureS (some u415)) (bindS (pureS (consO (lstO (consO (some (U.int 1)) (consO (op1 negV (some (U.int 1))) (some [])))) (some []))) fun xs => callM 0 (b1 m_law_of) xs))) fun x418 => (bindS (bindS (pureS (tupO (consO (some u51) (consO (callO (c1 tupleV) (consO (some x418) (some []))) (some []))))) fun y => appS 1 y) fun _ => (bindS (pureS (some (U.int 0))) fun y440 => bindS (pureS (some u51)) fun k441 => bindS (putS 2 k441 y440) fun _ => (withK (cutS' 3 (m_law_rows_l1 kL27 l52 (x406))) fun kL442 => (bindS (pureS (iterO U.iter (some x418))) fun xs445 => m_law_rows_l2 x406 kL442 xs445)))))) (cutS' 3 (m_law_rows_l1 kL27 l52 (x63))))
theorem ne_nil {xs : List U} : testO (op2 neV2 (some (U.frl xs)) (lstO (some []))) = some (!xs.isEmpty) := by
  rw [lstO0, op2_s]
  cases xs with
  | nil => rfl
  | cons x xs => rfl
theorem Word.nl {w : Str} (h : Word w) : (tl w).length ≤ 8 := h.2.1
theorem tail_ok {kL : U → SM U} {l : List U} {u free : U} {rs : List Row} {w : Str} {ss : List Str} {d : Int} (hw : Web rs) (hl : rs.length < 900) (hu : Urn u) (hfr : free.plc = true) (hww : Word w) (hwn : w ∉ names rs)
    (h2 : ss.length ≤ 2) (nd : ss.Nodup) (hs : ∀ s ∈ ss, s ∈ names rs ∧ cnt rs s < 2) :
    ∃ u' rs' d', tailR kL (.str w) l (.int d) [u, .frl (rowsU rs), .dic (dicI (used rs)), free, .frl (txs ss)] = m_law_rows_l1 kL l (.int d') [u', .frl (rowsU rs'), .dic (dicI (used rs'))] ∧ Urn u' ∧ Web rs' ∧ (rs' = rs ∨ ∃ ss', rs' = rs ++ [(w, ss')]) := by
  unfold tailR
  have q1 : lockT 4 (fun u388 => (testO (op2 neV2 (some u388) (lstO (some []))))) [u, .frl (rowsU rs), .dic (dicI (used rs)), free, .frl (txs ss)] = some (!(txs ss).isEmpty, [u, .frl (rowsU rs), .dic (dicI (used rs)), free, .frl (txs ss)]) := lockT_s rfl rfl ne_nil
  rw [ifS_s q1]
  by_cases he : ss = []
  · subst he
    refine ⟨u, rs, d, ?_, hu, hw, .inl rfl⟩
    rfl
  · have hne : (!(txs ss).isEmpty) = true := by
      cases ss with
      | nil => exact absurd rfl he
      | cons s ss => rfl
    rw [if_pos hne]
    have c2 : lockO 4 (fun u403 => (callO lenV (consO (some u403) (some [])))) [u, .frl (rowsU rs), .dic (dicI (used rs)), free, .frl (txs ss)] = some (.int ss.length, [u, .frl (rowsU rs), .dic (dicI (used rs)), free, .frl (txs ss)]) := lockO_s rfl rfl (by simp [lenV, txs]) rfl
    rw [bindS_s (opS_s (opS_s rfl c2 (subV_i (i := d) (j := ss.length))) rfl (addV_i (j := 1)))]
    obtain ⟨c, u1, ec, hu1, hc⟩ := of_at (t := [.frl (rowsU rs), .dic (dicI (used rs)), free, .non]) (xs := [.int 1, .int (-1)]) hu (by simp) (by decide)
    obtain ⟨ss', es, hss⟩ : ∃ ss', stepV (.frl (txs ss)) c = some (.lst (txs ss')) ∧ (ss' = ss ∨ ss' = ss.reverse) := by
      simp only [List.mem_cons, List.not_mem_nil, or_false] at hc
      rcases hc with rfl | rfl
      · exact ⟨ss, rfl, .inl rfl⟩
      · refine ⟨ss.reverse, ?_, .inr rfl⟩
        show some (U.lst (txs ss).reverse) = _
        simp [txs]
    have hmem : ∀ s, s ∈ ss' ↔ s ∈ ss := fun s => by rcases hss with rfl | rfl <;> simp
    have hlen : ss'.length = ss.length := by rcases hss with rfl | rfl <;> simp
    have nd' : ss'.Nodup := by
      rcases hss with rfl | rfl
      · exact nd
      · exact (List.reverse_perm ss).nodup_iff.mpr nd
    have c3 : lockS 4 (fun u415 => (opS stepV (pureS (some u415)) (bindS (pureS (consO (lstO (consO (some (U.int 1)) (consO (op1 negV (some (U.int 1))) (some [])))) (some []))) fun xs => callM 0 (b1 m_law_of) xs))) [u, .frl (rowsU rs), .dic (dicI (used rs)), free, .frl (txs ss)]
        = some (.lst (txs ss'), [u1, .frl (rowsU rs), .dic (dicI (used rs)), free, .frl (txs ss)]) := by
      have e1 : opS stepV (pureS (some (U.frl (txs ss)))) (bindS (pureS (consO (lstO (consO (some (U.int 1)) (consO (op1 negV (some (U.int 1))) (some [])))) (some []))) fun xs => callM 0 (b1 m_law_of) xs) [u, .frl (rowsU rs), .dic (dicI (used rs)), free, .non] = some (.lst (txs ss'), [u1, .frl (rowsU rs), .dic (dicI (used rs)), free, .non]) := opS_s rfl ec es
      have hp : ([u1, U.frl (rowsU rs), .dic (dicI (used rs)), free, U.non] : List U).all U.plc = true := by
        simp only [List.all_cons, hu1.plc, rowsU_plc, dicI_pl, hfr, List.all_nil]
        rfl
      have hpl : (U.lst (txs ss')).pl = true := by simp [U.pl, txs_pl]
      show ((([u, .frl (rowsU rs), .dic (dicI (used rs)), free, .frl (txs ss)] : List U)[4]?).bind _) = _
      simp only [List.getElem?_cons_succ, List.getElem?_cons_zero, Option.bind_some, U.own, if_true, List.set_cons_succ, List.set_cons_zero, e1]
      rw [if_pos ⟨hpl, hp⟩]
    rw [bindS_s c3]
    have et : callO (c1 tupleV) (consO (some (U.lst (txs ss'))) (some [])) = some (.tup (txs ss')) := rfl
    have hrl : (rowsU rs).length < lim := by simp [rowsU]; have : lim = 100000 := rfl; omega
    have c4 : appS 1 (rowU (w, ss')) [u1, .frl (rowsU rs), .dic (dicI (used rs)), free, .frl (txs ss)] = some (.non, [u1, .frl (rowsU (rs ++ [(w, ss')])), .dic (dicI (used rs)), free, .frl (txs ss)]) := by
      show (if (rowsU rs).length < lim then some (U.non, [u1, .frl (rowsU rs), .dic (dicI (used rs)), free, .frl (txs ss)].set 1 (.frl (rowsU rs ++ [rowU (w, ss')]))) else none) = _
      rw [if_pos hrl]
      simp [rowsU]
    have c4' : bindS (pureS (tupO (consO (some (U.str w)) (consO (callO (c1 tupleV) (consO (some (U.lst (txs ss'))) (some []))) (some []))))) (fun y => appS 1 y) [u1, .frl (rowsU rs), .dic (dicI (used rs)), free, .frl (txs ss)] = some (.non, [u1, .frl (rowsU (rs ++ [(w, ss')])), .dic (dicI (used rs)), free, .frl (txs ss)]) := by
      rw [et]; exact c4
    rw [bindS_s c4', bindS_pure, bindS_pure]
    have hul : (dicI (used rs)).length < lim := by simp [dicI, used]; have : lim = 100000 := rfl; omega
    have c5 : putS 2 (.str w) (.int 0) [u1, .frl (rowsU (rs ++ [(w, ss')])), .dic (dicI (used rs)), free, .frl (txs ss)] = some (.non, [u1, .frl (rowsU (rs ++ [(w, ss')])), .dic (dicI (used rs ++ [(w, 0)])), free, .frl (txs ss)]) := by
      show ((U.str w).key.bind fun kk => if (dicI (used rs)).length < lim then some (U.non, [u1, .frl (rowsU (rs ++ [(w, ss')])), .dic (dicI (used rs)), free, .frl (txs ss)].set 2 (.dic (putU (dicI (used rs)) kk (.int 0)))) else none) = _
      simp only [U.key, Option.bind_some, if_pos hul, putI_new (kvs := used rs) (by rw [used_keys]; exact hwn)]
      rfl
    rw [bindS_s c5]
    have hkn : ((used rs ++ [(w, (0 : Int))]).map (·.1)) = names rs ++ [w] := by rw [List.map_append, used_keys]; rfl
    have hnd : ((used rs ++ [(w, (0 : Int))]).map (·.1)).Nodup := by
      rw [hkn, List.nodup_append]
      exact ⟨hw.nodup, by simp, fun a ha b hb e => by simp at hb; subst hb; exact hwn (e ▸ ha)⟩
    have c6 := rows_l2 (x := .int (d - ss.length + 1)) (k := cutS' 3 (m_law_rows_l1 kL l (.int (d - ss.length + 1)))) (a := free) (b := .frl (txs ss)) hu1 (rowsU_plc (rs := rs ++ [(w, ss')])) ss' (used rs ++ [(w, 0)]) hnd (by simp [used]; omega) (fun s hs' => by rw [hkn]; exact List.mem_append_left _ (hs s ((hmem s).mp hs')).1)
    have hws : w ∉ ss' := fun z => hwn (hs w ((hmem w).mp z)).1
    rw [used_snoc hw hwn hws] at c6
    refine ⟨u1, rs ++ [(w, ss')], d - ss.length + 1, c6, hu1, .snoc hw hww hwn (fun z => he ?_) (by omega) nd' (fun s hs' => hs s ((hmem s).mp hs')), .inr ⟨ss', rfl⟩⟩
    rw [← List.length_eq_zero_iff, hlen, List.length_eq_zero_iff] at z
    exact z

theorem min3 {n : Nat} (h : 0 < n) (hn : n < 100000) : ∃ m : Int, minU [.int 3, .int n] = some (.int m) ∧ 0 < m ∧ m < 1073741824 ∧ m ≤ n := by
  refine ⟨if (n : Int) < 3 then n else 3, rfl, ?_⟩
  split <;> omega
/-- one of the free ones is taken out -/
theorem some0_ok {u : U} {rs : List Row} {free : List Str} (hu : Urn u) (hf : free.length < 1000) :
    ∃ u' free' ss, (ifS (lockT 3 fun u84 => (testO (op2 neV2 (some u84) (lstO (some []))))) (nlstS (consS (bindS (opS subV (opS subV (lockO 3 fun u87 => (callO lenV (consO (some u87) (some [])))) (pureS (some (U.int 1)))) (bindS (consS (callS minU (consS (pureS (some (U.int 3))) (consS (lockO 3 fun u90 => (callO lenV (consO (some u90) (some [])))) (pureS (some []))))) (pureS (some []))) fun xs => callM 0 (b1 m_law_pull) xs)) fun y => popS 3 y) (pureS (some [])))) (nlstS (pureS (some [])))) [u, .frl (rowsU rs), .dic (dicI (used rs)), .frl (txs free)]
      = some (.frl (txs ss), [u', .frl (rowsU rs), .dic (dicI (used rs)), .frl (txs free')]) ∧ Urn u' ∧ ss.length ≤ 1 ∧ (ss ++ free').Perm free := by
  have q1 : lockT 3 (fun u84 => (testO (op2 neV2 (some u84) (lstO (some []))))) [u, .frl (rowsU rs), .dic (dicI (used rs)), .frl (txs free)] = some (!(txs free).isEmpty, [u, .frl (rowsU rs), .dic (dicI (used rs)), .frl (txs free)]) := lockT_s rfl rfl ne_nil
  rw [ifS_s q1]
  cases hfr : free with
  | nil => exact ⟨u, [], [], rfl, hu, by simp, .refl _⟩
  | cons x r =>
    have hpos : 0 < free.length := by rw [hfr]; simp
    rw [← hfr]
    have hne : (!(txs free).isEmpty) = true := by rw [hfr]; rfl
    rw [if_pos hne]
    obtain ⟨m, em, m0, m1, m2⟩ := min3 hpos (by omega)
    have ql : ∀ u, lockO 3 (fun u87 => (callO lenV (consO (some u87) (some [])))) [u, .frl (rowsU rs), .dic (dicI (used rs)), .frl (txs free)] = some (.int free.length, [u, .frl (rowsU rs), .dic (dicI (used rs)), .frl (txs free)]) := fun u => lockO_s rfl rfl (by simp [lenV, txs]) rfl
    obtain ⟨p, u1, ep, hu1, p0, p1⟩ := pull_at (t := [.frl (rowsU rs), .dic (dicI (used rs)), .frl (txs free)]) hu m0 m1
    have e1 : opS subV (lockO 3 fun u87 => (callO lenV (consO (some u87) (some [])))) (pureS (some (U.int 1))) [u, .frl (rowsU rs), .dic (dicI (used rs)), .frl (txs free)] = some (.int (free.length - 1), [u, .frl (rowsU rs), .dic (dicI (used rs)), .frl (txs free)]) := opS_s (ql u) rfl (subV_i (i := free.length) (j := 1))
    have e2 : callS minU (consS (pureS (some (U.int 3))) (consS (lockO 3 fun u90 => (callO lenV (consO (some u90) (some [])))) (pureS (some [])))) [u, .frl (rowsU rs), .dic (dicI (used rs)), .frl (txs free)] = some (.int m, [u, .frl (rowsU rs), .dic (dicI (used rs)), .frl (txs free)]) := by
      unfold callS
      rw [bindS_s (consS_s rfl (consS_s (ql u) rfl)), pureS_s, em]
      rfl
    have e3 : bindS (consS (callS minU (consS (pureS (some (U.int 3))) (consS (lockO 3 fun u90 => (callO lenV (consO (some u90) (some [])))) (pureS (some []))))) (pureS (some []))) (fun xs => callM 0 (b1 m_law_pull) xs) [u, .frl (rowsU rs), .dic (dicI (used rs)), .frl (txs free)] = some (.int p, [u1, .frl (rowsU rs), .dic (dicI (used rs)), .frl (txs free)]) := by
      rw [bindS_s (consS_s e2 rfl)]
      exact ep
    have e4 := opS_s e1 e3 (subV_i (i := free.length - 1) (j := p))
    have hk0 : 0 ≤ (free.length : Int) - 1 - p := by omega
    have hk1 : (free.length : Int) - 1 - p < free.length := by omega
    generalize hkd : (free.length : Int) - 1 - p = kk at e4 hk0 hk1
    have hk : kk.toNat < free.length := by omega
    have e5 : popS 3 (.int kk) [u1, .frl (rowsU rs), .dic (dicI (used rs)), .frl (txs free)] = some (.str free[kk.toNat], [u1, .frl (rowsU rs), .dic (dicI (used rs)), .frl (txs (free.eraseIdx kk.toNat))]) := by
      have hsi : seqIndex? kk free.length = some kk.toNat := seqIndex_of hk0 hk1
      have hb : -(2 ^ 63) ≤ kk ∧ kk < 2 ^ 63 := by omega
      simp only [popS, List.getElem?_cons_succ, List.getElem?_cons_zero, if_pos hb, txs, List.length_map, hsi, Option.bind_some, List.getElem?_map, List.getElem?_eq_getElem hk, Option.map_some, er_map]
      rfl
    refine ⟨u1, free.eraseIdx kk.toNat, [free[kk.toNat]], ?_, hu1, by simp, perm_erase free kk.toNat hk⟩
    unfold nlstS
    rw [bindS_s (consS_s (bindS_s e4 |>.trans e5) rfl)]
    rfl
theorem andS_s {F G : SM Bool} {us us1 : List U} {x : Bool} (h : F us = some (x, us1)) : andS F G us = if x = true then G us1 else some (false, us1) := by
  unfold andS
  rw [bindS_s h]
  cases x <;> rfl
theorem testS_s' {F : SM U} {us us1 : List U} {b : Bool} (h : F us = some (.bl b, us1)) : testS F us = some (b, us1) := by
  unfold testS
  rw [bindS_s h]
  rfl
theorem last_get {r0 : List Row} {r : Row} : getV (.frl (rowsU (r0 ++ [r]))) (.int (-1)) = some (rowU r) := by
  show atI (rowsU (r0 ++ [r])) (-1) = _
  rw [show rowsU (r0 ++ [r]) = rowsU r0 ++ [rowU r] by simp [rowsU]]
  exact atI_neg1
theorem max2 {a b : Int} : maxA [.lst [.int a, .int b]] = some (.int (max a b)) := rfl
/-- whether the last copy's sources are taken again -/
theorem cond1_ok {u free ss : U} {rs r0 : List Row} {w0 : Str} {ls : List Str} {d : Int} (hu : Urn u) (hw : Web rs) (hrs : rs = r0 ++ [(w0, ls)]) (hl2 : ls.length ≤ 2) (hls : ∀ s ∈ ls, s ∈ names rs) :
    ∃ b u', andS (pureS (testO (op2 gtV (some (.int d)) (some (U.int 0))))) (andS (pureS (testO (op2 eqV2 (callO lenV (consO (some (.tup (txs ls))) (some []))) (some (U.int 2))))) (andS (testS (opS ltV (callS maxA (consS (lockO 2 fun u112 => (compO (fun u118 => (some true)) (fun u118 => (op2 getV (some u112) (some u118))) (iterO U.iter (some (.tup (txs ls)))))) (pureS (some [])))) (pureS (some (U.int 2))))) (testS (opS eqV2 (bindS (pureS (consO (some (U.int 2)) (some []))) fun xs => callM 0 (b1 m_law_pull) xs) (pureS (some (U.int 0))))))) [u, .frl (rowsU rs), .dic (dicI (used rs)), free, ss]
      = some (b, [u', .frl (rowsU rs), .dic (dicI (used rs)), free, ss]) ∧ Urn u' ∧ (b = true → ∀ s ∈ ls, cnt rs s < 2) := by
  rw [andS_s (x := decide (0 < d)) rfl]
  split
  · have el : testO (op2 eqV2 (callO lenV (consO (some (U.tup (txs ls))) (some []))) (some (U.int 2))) = some ((ls.length : Int) == 2) := by
      have : callO lenV (consO (some (U.tup (txs ls))) (some [])) = some (.int ls.length) := by simp [lenV, txs]
      rw [this]; rfl
    rw [andS_s (x := ((ls.length : Int) == 2)) (us1 := [u, .frl (rowsU rs), .dic (dicI (used rs)), free, ss]) (by rw [el]; rfl)]
    split
    · rename_i h2
      have h2 : ls.length = 2 := by
        have h3 : (ls.length : Int) = 2 := eq_of_beq h2
        omega
      match ls, h2, hls with
      | [a, b], _, hls =>
        have ha := get_used hw (hls a (by simp))
        have hb := get_used hw (hls b (by simp))
        have ec : lockO 2 (fun u112 => (compO (fun u118 => (some true)) (fun u118 => (op2 getV (some u112) (some u118))) (iterO U.iter (some (U.tup (txs [a, b])))))) [u, .frl (rowsU rs), .dic (dicI (used rs)), free, ss] = some (.lst [.int (cnt rs a), .int (cnt rs b)], [u, .frl (rowsU rs), .dic (dicI (used rs)), free, ss]) := by
          refine lockO_s rfl rfl ?_ rfl
          simp only [iterO_s, U.iter, compO_s, lcO, txs, List.map_cons, List.map_nil, lcL, op2_s, ha, hb, Option.bind_some, if_true, Option.map_some]
          rfl
        have em : opS ltV (callS maxA (consS (lockO 2 fun u112 => (compO (fun u118 => (some true)) (fun u118 => (op2 getV (some u112) (some u118))) (iterO U.iter (some (U.tup (txs [a, b])))))) (pureS (some [])))) (pureS (some (U.int 2))) [u, .frl (rowsU rs), .dic (dicI (used rs)), free, ss] = some (.bl (decide (max (cnt rs a : Int) (cnt rs b) < 2)), [u, .frl (rowsU rs), .dic (dicI (used rs)), free, ss]) := by
          refine opS_s (a := .int (max (cnt rs a : Int) (cnt rs b))) ?_ rfl (ltV_i (j := 2))
          unfold callS
          rw [bindS_s (consS_s ec rfl)]
          rfl
        rw [andS_s (testS_s' em)]
        split
        · rename_i hm
          have hm : max (cnt rs a : Int) (cnt rs b) < 2 := by simpa using hm
          obtain ⟨p, u1, ep, hu1, p0, p1⟩ := pull_at (t := [.frl (rowsU rs), .dic (dicI (used rs)), free, ss]) (n := 2) hu (by decide) (by decide)
          have ee : opS eqV2 (bindS (pureS (consO (some (U.int 2)) (some []))) fun xs => callM 0 (b1 m_law_pull) xs) (pureS (some (U.int 0))) [u, .frl (rowsU rs), .dic (dicI (used rs)), free, ss] = some (.bl (p == 0), [u1, .frl (rowsU rs), .dic (dicI (used rs)), free, ss]) := opS_s ep rfl rfl
          refine ⟨p == 0, u1, testS_s' ee, hu1, fun _ s hs => ?_⟩
          simp only [List.mem_cons, List.not_mem_nil, or_false] at hs
          rcases hs with rfl | rfl <;> omega
        · exact ⟨false, u, rfl, hu, fun z => by cases z⟩
    · exact ⟨false, u, rfl, hu, fun z => by cases z⟩
  · exact ⟨false, u, rfl, hu, fun z => by cases z⟩
theorem cond2_ok {u : U} {rs : List Row} {free ss : List Str} {d : Int} (hu : Urn u) :
    ∃ b u', andS (pureS (testO (op2 gtV (some (.int d)) (some (U.int 0))))) (andS (lockT 4 fun u250 => (testO (op2 neV2 (some u250) (lstO (some []))))) (andS (lockT 3 fun u253 => (testO (op2 neV2 (some u253) (lstO (some []))))) (testS (opS gtV (bindS (pureS (consO (some (U.int 3)) (some []))) fun xs => callM 0 (b1 m_law_pull) xs) (pureS (some (U.int 0))))))) [u, .frl (rowsU rs), .dic (dicI (used rs)), .frl (txs free), .frl (txs ss)]
      = some (b, [u', .frl (rowsU rs), .dic (dicI (used rs)), .frl (txs free), .frl (txs ss)]) ∧ Urn u' ∧ (b = true → free ≠ [] ∧ ss ≠ []) := by
  rw [andS_s (x := decide (0 < d)) rfl]
  split
  · rw [andS_s (lockT_s rfl rfl ne_nil)]
    split
    · rename_i h4
      rw [andS_s (lockT_s rfl rfl ne_nil)]
      split
      · rename_i h3
        obtain ⟨p, u1, ep, hu1, p0, p1⟩ := pull_at (t := [.frl (rowsU rs), .dic (dicI (used rs)), .frl (txs free), .frl (txs ss)]) (n := 3) hu (by decide) (by decide)
        have ee : opS gtV (bindS (pureS (consO (some (U.int 3)) (some []))) fun xs => callM 0 (b1 m_law_pull) xs) (pureS (some (U.int 0))) [u, .frl (rowsU rs), .dic (dicI (used rs)), .frl (txs free), .frl (txs ss)] = some (.bl (decide (0 < p)), [u1, .frl (rowsU rs), .dic (dicI (used rs)), .frl (txs free), .frl (txs ss)]) := opS_s ep rfl rfl
        refine ⟨_, u1, testS_s' ee, hu1, fun _ => ⟨fun z => ?_, fun z => ?_⟩⟩
        · subst z; exact absurd h3 (by decide)
        · subst z; exact absurd h4 (by decide)
      · exact ⟨false, u, rfl, hu, fun z => by cases z⟩
    · exact ⟨false, u, rfl, hu, fun z => by cases z⟩
  · exact ⟨false, u, rfl, hu, fun z => by cases z⟩
/-- a second source -/
theorem second_ok {u : U} {rs : List Row} {free ss : List Str} (hu : Urn u) (hf : free ≠ []) (hl : free.length < 1000) (hs : ss.length < 1000) :
    ∃ n u', bindS (lockS 3 fun u268 => (opS getV (pureS (some u268)) (opS subV (pureS (op2 subV (callO lenV (consO (some u268) (some []))) (some (U.int 1)))) (bindS (pureS (consO (callO minU (consO (some (U.int 3)) (consO (callO lenV (consO (some u268) (some []))) (some [])))) (some []))) fun xs => callM 0 (b1 m_law_pull) xs)))) (fun y => appS 4 y) [u, .frl (rowsU rs), .dic (dicI (used rs)), .frl (txs free), .frl (txs ss)]
      = some (.non, [u', .frl (rowsU rs), .dic (dicI (used rs)), .frl (txs free), .frl (txs (ss ++ [n]))]) ∧ Urn u' ∧ n ∈ free := by
  have hpos : 0 < free.length := List.length_pos_iff.mpr hf
  obtain ⟨m, em, m0, m1, m2⟩ := min3 hpos (by omega)
  obtain ⟨p, u1, ep, hu1, p0, p1⟩ := pull_at (t := [.frl (rowsU rs), .dic (dicI (used rs)), .non, .frl (txs ss)]) hu m0 m1
  have ql : callO lenV (consO (some (U.frl (txs free))) (some [])) = some (.int free.length) := by simp [lenV, txs]
  have hk0 : 0 ≤ (free.length : Int) - 1 - p := by omega
  have hk1 : (free.length : Int) - 1 - p < (txs free).length := by rw [txs_length]; omega
  obtain ⟨z, ez, hz⟩ := atI_int hk0 hk1
  obtain ⟨n, hn, rfl⟩ : ∃ n ∈ free, U.str n = z := by
    have := List.mem_of_getElem? hz
    obtain ⟨n, hn, e⟩ := List.mem_map.mp this
    exact ⟨n, hn, e⟩
  have e1 : opS getV (pureS (some (U.frl (txs free)))) (opS subV (pureS (op2 subV (callO lenV (consO (some (U.frl (txs free))) (some []))) (some (U.int 1)))) (bindS (pureS (consO (callO minU (consO (some (U.int 3)) (consO (callO lenV (consO (some (U.frl (txs free))) (some []))) (some [])))) (some []))) fun xs => callM 0 (b1 m_law_pull) xs)) [u, .frl (rowsU rs), .dic (dicI (used rs)), .non, .frl (txs ss)] = some (.str n, [u1, .frl (rowsU rs), .dic (dicI (used rs)), .non, .frl (txs ss)]) := by
    rw [ql]
    simp only [op2_s, subV_i, consO_s, callO_s, em]
    exact opS_s rfl (opS_s rfl ep (subV_i (i := (free.length : Int) - 1) (j := p))) ez
  have hp : ([u1, U.frl (rowsU rs), .dic (dicI (used rs)), U.non, .frl (txs ss)] : List U).all U.plc = true := by
    simp only [List.all_cons, hu1.plc, rowsU_plc, dicI_pl, txs_plc, List.all_nil]
    rfl
  have e2 : lockS 3 (fun u268 => (opS getV (pureS (some u268)) (opS subV (pureS (op2 subV (callO lenV (consO (some u268) (some []))) (some (U.int 1)))) (bindS (pureS (consO (callO minU (consO (some (U.int 3)) (consO (callO lenV (consO (some u268) (some []))) (some [])))) (some []))) fun xs => callM 0 (b1 m_law_pull) xs)))) [u, .frl (rowsU rs), .dic (dicI (used rs)), .frl (txs free), .frl (txs ss)] = some (.str n, [u1, .frl (rowsU rs), .dic (dicI (used rs)), .frl (txs free), .frl (txs ss)]) := by
    show ((([u, .frl (rowsU rs), .dic (dicI (used rs)), .frl (txs free), .frl (txs ss)] : List U)[3]?).bind _) = _
    simp only [List.getElem?_cons_succ, List.getElem?_cons_zero, Option.bind_some, U.own, if_true, List.set_cons_succ, List.set_cons_zero, e1]
    rw [if_pos ⟨rfl, hp⟩]
  refine ⟨n, u1, ?_, hu1, hn⟩
  rw [bindS_s e2]
  have hsl : (txs ss).length < lim := by rw [txs_length]; have : lim = 100000 := rfl; omega
  show (if (txs ss).length < lim then some (U.non, [u1, .frl (rowsU rs), .dic (dicI (used rs)), .frl (txs free), .frl (txs ss)].set 4 (.frl (txs ss ++ [.str n]))) else none) = _
  rw [if_pos hsl]
  simp [txs]

theorem rows_cons {kL27 : U → SM U} {u51 : U} {l52 : List U} {x63 : U} : m_law_rows_l1 kL27 (u51 :: l52) x63 = (bindS (lockN 2 fun u68 => (lcS (fun u74 => (pureS (testO (op2 ltV (op2 getV (some u68) (some u74)) (some (U.int 2)))))) (fun u74 => (pureS (some u74))) (pureS (iterO U.iter (some u68))))) fun u => addS u (bindS (ifS (lockT 3 fun u84 => (testO (op2 neV2 (some u84) (lstO (some []))))) (nlstS (consS (bindS (opS subV (opS subV (lockO 3 fun u87 => (callO lenV (consO (some u87) (some [])))) (pureS (some (U.int 1)))) (bindS (consS (callS minU (consS (pureS (some (U.int 3))) (consS (lockO 3 fun u90 => (callO lenV (consO (some u90) (some [])))) (pureS (some []))))) (pureS (some []))) fun xs => callM 0 (b1 m_law_pull) xs)) fun y => popS 3 y) (pureS (some [])))) (nlstS (pureS (some [])))) fun u => addS u (bindS (opS getV (lockO 1 fun u100 => (op2 getV (some u100) (op1 negV (some (U.int 1))))) (pureS (some (U.int 1)))) fun x103 => (ifS (andS (pureS (testO (op2 gtV (some x63) (some (U.int 0))))) (andS (pureS (testO (op2 eqV2 (callO lenV (consO (some x103) (some []))) (some (U.int 2))))) (andS (testS (opS ltV (callS maxA (consS (lockO 2 fun u112 => (compO (fun u118 => (some true)) (fun u118 => (op2 getV (some u112) (some u118))) (iterO U.iter (some x103)))) (pureS (some [])))) (pureS (some (U.int 2))))) (testS (opS eqV2 (bindS (pureS (consO (some (U.int 2)) (some []))) fun xs => callM 0 (b1 m_law_pull) xs) (pureS (some (U.int 0)))))))) (bindS (callS (c1 listNB) (pureS (consO (some x103) (some [])))) fun u => swapS 4 u (tailR kL27 u51 l52 x63))
    (ifS (andS (pureS (testO (op2 gtV (some x63) (some (U.int 0))))) (andS (lockT 4 fun u250 => (testO (op2 neV2 (some u250) (lstO (some []))))) (andS (lockT 3 fun u253 => (testO (op2 neV2 (some u253) (lstO (some []))))) (testS (opS gtV (bindS (pureS (consO (some (U.int 3)) (some []))) fun xs => callM 0 (b1 m_law_pull) xs) (pureS (some (U.int 0)))))))) (bindS (bindS (lockS 3 fun u268 => (opS getV (pureS (some u268)) (opS subV (pureS (op2 subV (callO lenV (consO (some u268) (some []))) (some (U.int 1)))) (bindS (pureS (consO (callO minU (consO (some (U.int 3)) (consO (callO lenV (consO (some u268) (some []))) (some [])))) (some []))) fun xs => callM 0 (b1 m_law_pull) xs)))) fun y => appS 4 y) fun _ => tailR kL27 u51 l52 x63) (tailR kL27 u51 l52 x63)))))) := rfl
theorem turn_ok {kL : U → SM U} {l : List U} {u : U} {rs : List Row} {w : Str} {d : Int} (hw : Web rs) (hl : rs.length < 900) (hu : Urn u) (hww : Word w) (hwn : w ∉ names rs) :
    ∃ u' rs' d', m_law_rows_l1 kL (.str w :: l) (.int d) [u, .frl (rowsU rs), .dic (dicI (used rs))] = m_law_rows_l1 kL l (.int d') [u', .frl (rowsU rs'), .dic (dicI (used rs'))] ∧ Urn u' ∧ Web rs' ∧ (rs' = rs ∨ ∃ ss', rs' = rs ++ [(w, ss')]) := by
  rw [rows_cons, bindS_s (free_ok hw hu (by omega))]
  have hfl : (freeL rs).length < 1000 := by
    have := List.length_filter_le (fun n => decide (cnt rs n < 2)) (names rs)
    have h2 : (names rs).length = rs.length := by simp [names]
    show ((names rs).filter _).length < 1000
    omega
  obtain ⟨u1, free, ss, e1, hu1, hs1, hp⟩ := some0_ok (rs := rs) (free := freeL rs) hu hfl
  show ∃ u' rs' d', bindS _ _ [u, .frl (rowsU rs), .dic (dicI (used rs)), .frl (txs (freeL rs))] = _ ∧ _
  rw [bindS_s e1]
  have hmem : ∀ s, s ∈ ss ∨ s ∈ free → s ∈ names rs ∧ cnt rs s < 2 := fun s h => free_mem.mp (hp.mem_iff.mp (List.mem_append.mpr h))
  have hnd : (ss ++ free).Nodup := hp.nodup_iff.mpr (free_nodup hw)
  have hnd1 := (List.nodup_append.mp hnd).1
  have hfl2 : free.length < 1000 := by
    have := hp.length_eq
    rw [List.length_append] at this
    omega
  obtain ⟨r0, w0, ls, hrs, hl2, lnd, lsn⟩ := hw.last
  show ∃ u' rs' d', bindS _ _ [u1, .frl (rowsU rs), .dic (dicI (used rs)), .frl (txs free), .frl (txs ss)] = _ ∧ _
  have e2 : opS getV (lockO 1 fun u100 => (op2 getV (some u100) (op1 negV (some (U.int 1))))) (pureS (some (U.int 1))) [u1, .frl (rowsU rs), .dic (dicI (used rs)), .frl (txs free), .frl (txs ss)] = some (.tup (txs ls), [u1, .frl (rowsU rs), .dic (dicI (used rs)), .frl (txs free), .frl (txs ss)]) := by
    refine opS_s (a := rowU (w0, ls)) (lockO_s rfl rfl ?_ ?_) rfl rfl
    · rw [op1_s, negV_i, op2_s, hrs]; exact last_get
    · simp [rowU, U.pl, U.pls, txs_pl]
  rw [bindS_s e2]
  obtain ⟨b1, u2, e3, hu2, hb1⟩ := cond1_ok (free := .frl (txs free)) (ss := .frl (txs ss)) (d := d) hu1 hw hrs hl2 lsn
  rw [ifS_s e3]
  cases b1 with
  | true =>
    rw [if_pos rfl]
    show ∃ u' rs' d', tailR kL (.str w) l (.int d) [u2, .frl (rowsU rs), .dic (dicI (used rs)), .frl (txs free), .frl (txs ls)] = _ ∧ _
    exact tail_ok hw hl hu2 txs_plc hww hwn hl2 lnd fun s hs => ⟨lsn s hs, hb1 rfl s hs⟩
  | false =>
    rw [if_neg Bool.false_ne_true]
    obtain ⟨b2, u3, e4, hu3, hb2⟩ := cond2_ok (rs := rs) (free := free) (ss := ss) (d := d) hu2
    rw [ifS_s e4]
    cases b2 with
    | true =>
      rw [if_pos rfl]
      obtain ⟨n, u4, e5, hu4, hn⟩ := second_ok (rs := rs) (free := free) (ss := ss) hu3 (hb2 rfl).1 hfl2 (by omega)
      rw [bindS_s e5]
      refine tail_ok hw hl hu4 txs_plc hww hwn (by rw [List.length_append, List.length_singleton]; omega) ?_ fun s hs => ?_
      · rw [List.nodup_append]
        refine ⟨hnd1, by simp, fun a ha b hb e => ?_⟩
        simp at hb
        subst hb
        exact (List.nodup_append.mp hnd).2.2 a ha b hn e
      · rcases List.mem_append.mp hs with hs | hs
        · exact hmem s (.inl hs)
        · simp at hs; subst hs; exact hmem s (.inr hn)
    | false =>
      rw [if_neg Bool.false_ne_true]
      exact tail_ok hw hl hu3 txs_plc hww hwn (by omega) hnd1 fun s hs => hmem s (.inl hs)
theorem rows_l1 {kL : U → SM U} : ∀ (ws : List Str) (u : U) (rs : List Row) (d : Int), Web rs → rs.length + ws.length < 900 → Urn u → (∀ w ∈ ws, Word w) → ws.Nodup → (∀ w ∈ ws, w ∉ names rs) →
    ∃ u' rs' d', m_law_rows_l1 kL (txs ws) (.int d) [u, .frl (rowsU rs), .dic (dicI (used rs))] = kL (.int d') [u', .frl (rowsU rs'), .dic (dicI (used rs'))] ∧ Urn u' ∧ Web rs' ∧ rs'.length ≤ rs.length + ws.length ∧ ∀ n ∈ names rs', n ∈ names rs ∨ n ∈ ws
  | [], u, rs, d, hw, _, hu, _, _, _ => ⟨u, rs, d, rfl, hu, hw, by simp, fun n hn => .inl hn⟩
  | w :: ws, u, rs, d, hw, hl, hu, hwd, nd, hn => by
    rw [List.length_cons] at hl
    rw [List.nodup_cons] at nd
    obtain ⟨u1, rs1, d1, e1, hu1, hw1, h1⟩ := turn_ok (kL := kL) (l := txs ws) (d := d) hw (by omega) hu (hwd w (List.mem_cons_self ..)) (hn w (List.mem_cons_self ..))
    have hl1 : rs1.length ≤ rs.length + 1 := by
      rcases h1 with rfl | ⟨ss, rfl⟩
      · omega
      · simp
    have hn1 : ∀ x ∈ ws, x ∉ names rs1 := fun x hx => by
      have h0 := hn x (List.mem_cons_of_mem _ hx)
      rcases h1 with rfl | ⟨ss, rfl⟩
      · exact h0
      · rw [names_snoc]
        intro z
        rcases List.mem_append.mp z with z | z
        · exact h0 z
        · simp at z; subst z; exact nd.1 hx
    obtain ⟨u2, rs2, d2, e2, hu2, hw2, h2, h3⟩ := rows_l1 (kL := kL) ws u1 rs1 d1 hw1 (by omega) hu1 (fun x hx => hwd x (List.mem_cons_of_mem _ hx)) nd.2 hn1
    refine ⟨u2, rs2, d2, ?_, hu2, hw2, by rw [List.length_cons]; omega, fun n hn => ?_⟩
    · rw [← e2, ← e1]
      rfl
    · rcases h3 n hn with z | z
      · rcases h1 with rfl | ⟨ss, rfl⟩
        · exact .inl z
        · rw [names_snoc] at z
          rcases List.mem_append.mp z with z | z
          · exact .inl z
          · simp at z; subst z; exact .inr (List.mem_cons_self ..)
      · exact .inr (List.mem_cons_of_mem _ z)
theorem rows_okP {u : U} {n : Nat} {d : Int} (hu : Urn u) (h1 : 1 ≤ n) (hn : n ≤ 16) : ∃ rs u', b2 m_law_rows u [.int n, .int d] = some (.lst (rowsU rs), u') ∧ Urn u' ∧ Web rs ∧ rs.length ≤ n ∧ ∀ w ∈ names rs, w ∈ POOL := by
  obtain ⟨ws, u1, e1, hu1, hl, nd, hp⟩ := words_ok hu hn
  match ws, hl, nd, hp with
  | [], hl, _, _ => simp at hl; omega
  | w :: ws, hl, nd, hp =>
    rw [List.nodup_cons] at nd
    rw [List.length_cons] at hl
    have hww : Word w := pool_words w (hp w (List.mem_cons_self ..))
    obtain ⟨u2, rs2, d2, e2, hu2, hw2, h2, h3⟩ := rows_l1 (kL := fun x501 => (takeS 1)) ws u1 [(w, [])] d (.one hww) (by simp; omega) hu1 (fun x hx => pool_words x (hp x (List.mem_cons_of_mem _ hx))) nd.2 (fun x hx z => by simp [names] at z; subst z; exact nd.1 hx)
    refine ⟨rs2, u2, ?_, hu2, hw2, by simp at h2; omega, fun x hx => ?_⟩
    rotate_left
    · rcases h3 x hx with z | z
      · simp [names] at z; subst z; exact hp _ (List.mem_cons_self ..)
      · exact hp x (List.mem_cons_of_mem _ z)
    show finS (m_law_rows (.int n) (.int d) [u]) = _
    have e3 : bindS (pureS (consO (some (U.int n)) (some []))) (fun xs => callM 0 (b1 m_law_words) xs) [u] = some (.lst (txs (w :: ws)), [u1]) := callM_s (us := [u]) (j := 0) rfl hu.own e1
    have e4 : m_law_rows (.int n) (.int d) [u] = m_law_rows_l1 (fun x501 => (takeS 1)) (txs ws) (.int d) [u1, .frl (rowsU [(w, [])]), .dic (dicI (used [(w, [])]))] := by
      unfold m_law_rows
      rw [bindS_s e3]
      have hs : slO (some (U.lst (txs (w :: ws)))) (ptO (some (U.int 1))) (some none) = some (.lst (txs ws)) := cut1n
      have hg : op2 getV (some (U.lst (txs (w :: ws)))) (some (U.int 0)) = some (.str w) := get0n
      rw [hs, hg]
      rfl
    rw [e4, e2]
    simp [takeS, finS, hu2.own]

theorem rows_ok {u : U} {n : Nat} {d : Int} (hu : Urn u) (h1 : 1 ≤ n) (hn : n ≤ 16) : ∃ rs u', b2 m_law_rows u [.int n, .int d] = some (.lst (rowsU rs), u') ∧ Urn u' ∧ Web rs ∧ rs.length ≤ n := by
  obtain ⟨rs, u', e, a, b, c, _⟩ := rows_okP (d := d) hu h1 hn
  exact ⟨rs, u', e, a, b, c⟩
/-! ### the text -/
def partT (r : Row) : Str := Txt.join " " (r.1 :: r.2)
def textT (rs : List Row) : Str := Txt.join "; " (rs.map partT)
theorem Web.src_word {rs : List Row} (h : Web rs) {r : Row} (hr : r ∈ rs) : ∀ s ∈ r.2, Word s := fun s hs => h.words s (h.src s (List.mem_flatMap.mpr ⟨r, hr, hs⟩))
theorem Web.row_two {rs : List Row} (h : Web rs) : ∀ r ∈ rs, r.2.length ≤ 2 := by
  induction h with
  | one _ => intro r hr; simp at hr; subst hr; simp
  | snoc _ _ _ _ h2 _ _ ih =>
    intro r hr
    rcases List.mem_append.mp hr with hr | hr
    · exact ih r hr
    · simp at hr; subst hr; exact h2
theorem Word.len {w : Str} (h : Word w) : w.length ≤ 8 := by rw [TL.len_tl]; exact h.2.1
theorem sum_le {α : Type} {f : α → Nat} {b : Nat} : ∀ {l : List α}, (∀ a ∈ l, f a ≤ b) → (l.map f).sum ≤ l.length * b
  | [], _ => by simp
  | a :: l, h => by
    have ih := sum_le (f := f) (l := l) fun x hx => h x (List.mem_cons_of_mem _ hx)
    have h1 := h a (List.mem_cons_self ..)
    rw [List.map_cons, List.sum_cons, List.length_cons, Nat.add_mul, Nat.one_mul]
    omega
theorem part_sum {rs : List Row} (h : Web rs) {r : Row} (hr : r ∈ rs) : ((r.1 :: r.2).map (·.length)).sum + (r.1 :: r.2).length * (" " : Str).length ≤ 27 := by
  have h1 : ∀ s ∈ r.1 :: r.2, s.length ≤ 8 := fun s hs => by
    rcases List.mem_cons.mp hs with rfl | hs
    · exact (h.words _ (List.mem_map.mpr ⟨r, hr, rfl⟩)).len
    · exact (h.src_word hr s hs).len
  have h2 := sum_le (f := fun s : Str => s.length) h1
  have h3 := h.row_two r hr
  have h4 : (" " : Str).length = 1 := by decide +kernel
  rw [h4]
  simp only [List.length_cons] at h2 ⊢
  omega
theorem part_len {rs : List Row} (h : Web rs) {r : Row} (hr : r ∈ rs) : (partT r).length ≤ 27 := Nat.le_trans (join_length _ _) (part_sum h hr)
theorem text_sum {rs : List Row} (h : Web rs) (hl : rs.length ≤ 40) : ((rs.map partT).map (·.length)).sum + (rs.map partT).length * ("; " : Str).length ≤ 1160 := by
  have h2 := sum_le (f := fun r => (partT r).length) (l := rs) (b := 27) fun r hr => part_len h hr
  have h4 : ("; " : Str).length = 2 := by decide +kernel
  rw [h4, List.map_map, List.length_map]
  have e : (rs.map ((fun x => x.length) ∘ partT)) = rs.map fun r => (partT r).length := rfl
  rw [e]
  omega
theorem text_ok {rs : List Row} (h : Web rs) (hl : rs.length ≤ 40) : m_law_text (.lst (rowsU rs)) = some (.str (textT rs)) := by
  unfold m_law_text
  have hlim : lim = 100000 := rfl
  have e : compO2 (fun u4 u7 => (some true)) (fun u4 u7 => (op2 joinV (some (U.str " ")) (op2 addV (lstO (consO (some u4) (some []))) (callO (c1 listB) (consO (some u7) (some [])))))) (iterO U.iter (some (U.lst (rowsU rs)))) = some (.lst ((rs.map partT).map U.str)) := by
    have := lcO_mf (p := fun u => (unp2 u).bind fun _ => some true) (f := fun u => (unp2 u).bind fun ab => op2 joinV (some (U.str " ")) (op2 addV (lstO (consO (some ab.1) (some []))) (callO (c1 listB) (consO (some ab.2) (some []))))) (g := rowU) (q := fun _ => true) (h := fun r => U.str (partT r)) rs (by omega) (fun _ _ => rfl) (fun r hr _ => by
      have h2 := h.row_two r hr
      show op2 joinV (some (U.str " ")) (op2 addV (some (U.lst [.str r.1])) (some (.lst (txs r.2)))) = _
      have ea : addV (U.lst [.str r.1]) (.lst (txs r.2)) = some (.lst ((r.1 :: r.2).map U.str)) := by
        show (if [U.str r.1].length + (txs r.2).length ≤ lim then some (U.lst ([U.str r.1] ++ txs r.2)) else none) = _
        rw [if_pos (by rw [txs_length]; simp; omega)]
        rfl
      rw [op2_s, ea, op2_s]
      exact join_lst (Nat.le_trans (part_sum h hr) (by decide)))
    rw [List.filter_eq_self.mpr (fun _ _ => rfl)] at this
    rw [List.map_map]
    exact this
  rw [e, op2_s]
  exact join_lst (Nat.le_trans (text_sum h hl) (by decide))
theorem text_len {rs : List Row} (h : Web rs) (hl : rs.length ≤ 40) : (textT rs).length ≤ 1160 := Nat.le_trans (join_length _ _) (text_sum h hl)
theorem split_text {rs : List Row} (h : Web rs) (hl : rs.length ≤ 40) : splitV (.str (textT rs)) (.str "; ") = some (.lst (txs (rs.map partT))) := by
  have hk : ("; " : Str).length ≠ 0 := by decide +kernel
  have hlen := text_len h hl
  have hlim : lim = 100000 := rfl
  show (if ("; " : Str).length ≠ 0 ∧ (textT rs).length ≤ lim then some (U.lst ((Txt.split (textT rs) "; ").map U.str)) else none) = _
  rw [if_pos ⟨hk, by omega⟩]
  have e : Txt.split (textT rs) "; " = rs.map partT := by
    refine TL.split_join (s := 59) (S := [32]) (by decide +kernel) (by decide +kernel) ?_ fun p hp hc => ?_
    · simpa using h.ne
    · obtain ⟨r, hr, rfl⟩ := List.mem_map.mp hp
      have hc : 59 ∈ TL.tl (Txt.join " " (r.1 :: r.2)) := hc
      rw [TL.join_eq, TL.tl_join] at hc
      rcases mem_joinL hc with hc | ⟨p, hp, hc⟩
      · exact absurd hc (by decide +kernel)
      · obtain ⟨s, hs, rfl⟩ := List.mem_map.mp hp
        have hw : Word s := by
          rcases List.mem_cons.mp hs with rfl | hs
          · exact h.words _ (List.mem_map.mpr ⟨r, hr, rfl⟩)
          · exact h.src_word hr s hs
        have := hw.2.2 59 hc
        omega
  rw [e]
  rfl
theorem split_part {r : Row} (hw : ∀ s ∈ r.1 :: r.2, Word s) (hl : (partT r).length ≤ 27) : splitV (.str (partT r)) (.str " ") = some (.lst (txs (r.1 :: r.2))) := by
  have hk : (" " : Str).length ≠ 0 := by decide +kernel
  have hlim : lim = 100000 := rfl
  show (if (" " : Str).length ≠ 0 ∧ (partT r).length ≤ lim then some (U.lst ((Txt.split (partT r) " ").map U.str)) else none) = _
  rw [if_pos ⟨hk, by omega⟩]
  have e : Txt.split (partT r) " " = r.1 :: r.2 := by
    refine TL.split_join (s := 32) (S := []) (by decide +kernel) (by decide +kernel) (by simp) fun p hp hc => ?_
    have := (hw p hp).2.2 32 hc
    omega
  rw [e]
  rfl

/-! ### dicts with text keys -/
def strDic (l : List (Str × U)) : List (Key × U) := l.map fun kv => (Sum.inr kv.1, kv.2)
theorem look_dic {n : Str} : ∀ (l : List (Str × U)), lookK (strDic l) (Sum.inr n) = l.lookup n
  | [] => rfl
  | (k, v) :: l => by
    have ih := look_dic (n := n) l
    by_cases e : k = n
    · subst e
      simp [lookK, strDic, List.lookup]
    · have e2 : decide ((Sum.inr k : Key) = Sum.inr n) = false := by simp [e]
      have e3 : (n == k) = false := by simpa using fun z => e z.symm
      simp only [lookK, strDic, List.map_cons, List.find?_cons, List.lookup_cons] at ih ⊢
      rw [e2, e3]
      exact ih
theorem lookup_some {β : Type} {n : Str} {v : β} : ∀ {l : List (Str × β)}, (l.map (·.1)).Nodup → (n, v) ∈ l → l.lookup n = some v
  | [], _, h => by cases h
  | (k, x) :: l, nd, h => by
    rw [List.map_cons, List.nodup_cons] at nd
    rw [List.lookup_cons]
    by_cases e : n = k
    · subst e
      rcases List.mem_cons.mp h with h | h
      · cases h; simp
      · exact absurd (List.mem_map.mpr ⟨_, h, rfl⟩) nd.1
    · have e3 : (n == k) = false := by simpa using e
      rw [e3]
      rcases List.mem_cons.mp h with h | h
      · cases h; exact absurd rfl e
      · exact lookup_some nd.2 h
theorem lookup_isSome {β : Type} {n : Str} : ∀ {l : List (Str × β)}, (l.lookup n).isSome = decide (n ∈ l.map (·.1))
  | [] => by simp
  | (k, x) :: l => by
    rw [List.lookup_cons]
    by_cases e : n = k
    · subst e; simp
    · have e3 : (n == k) = false := by simpa using e
      rw [e3]
      have := lookup_isSome (n := n) (l := l)
      simp only [this, List.map_cons, List.mem_cons, e, false_or]
theorem in_dic {n : Str} {l : List (Str × U)} : inV2 (.str n) (.dic (strDic l)) = some (.bl (decide (n ∈ l.map (·.1)))) := by
  show ((((U.str n).key.map fun k => lookK (strDic l) k)).map Option.isSome).map U.bl = _
  simp only [U.key, Option.map_some, look_dic, lookup_isSome]
theorem get_dic {n : Str} {v : U} {l : List (Str × U)} (nd : (l.map (·.1)).Nodup) (h : (n, v) ∈ l) : getV (.dic (strDic l)) (.str n) = some v := by
  show (((U.str n).key.map fun k => lookK (strDic l) k)).bind id = _
  simp only [U.key, Option.map_some, look_dic, lookup_some nd h]
  rfl
/-! ### words -/
theorem letters : ("abcdefghijklmnopqrstuvwxyz" : Str).cps.toList = List.range' 97 26 := by decide +kernel
theorem is_word_ok {w : Str} (h : Word w) : m_is_word (.str w) = some (.bl true) := by
  unfold m_is_word
  have hl := h.len
  have hlim : lim = 100000 := rfl
  have e1 : callO lenV (consO (some (U.str w)) (some [])) = some (.int w.length) := by
    show (if w.length ≤ lim then some (U.int w.length) else none) = _
    rw [if_pos (by omega)]
  have h0 : 0 < w.length := by rw [TL.len_tl]; exact h.1
  have e2 : chainO ltV leV (some (U.int 0)) (some (U.int w.length)) (some (U.int 8)) = some (.bl true) := by
    rw [chainO_s (ltV_i (i := 0) (j := w.length))]
    have : decide ((0 : Int) < w.length) = true := by simp; omega
    rw [this, if_pos rfl, leV_i]
    simp; omega
  have e3 : compO (fun u4 => (some true)) (fun u4 => (op2 inV2 (some u4) (some (U.str "abcdefghijklmnopqrstuvwxyz")))) (iterO U.signs (some (U.str w))) = some (.lst ((tl w).map fun c => U.bl true)) := by
    refine lcO_map (g := fun c => U.str ⟨#[c]⟩) (h := fun c => U.bl true) (tl w) (by have := h.2.1; omega) fun c hc => ?_
    show ((U.str ⟨#[c]⟩).sign.map fun c => decide (c ∈ ("abcdefghijklmnopqrstuvwxyz" : Str).cps.toList)).map U.bl = _
    rw [letters]
    have := h.2.2 c hc
    show some (U.bl (decide (c ∈ List.range' 97 26))) = _
    rw [decide_eq_true (by rw [List.mem_range']; exact ⟨c - 97, by omega, by omega⟩)]
  rw [e1, e2, e3, andV_t, consO_s, callO_s, all_map (p := fun _ => true)]
  simp
def orgL (rs : List Row) : List (Str × U) := rs.map fun r => (r.1, .tup (txs r.2))
theorem orgL_keys {rs : List Row} : (orgL rs).map (·.1) = names rs := by simp [orgL, names]
theorem len_dic {l : List (Key × U)} : callO lenV (consO (some (U.dic l)) (some [])) = some (.int l.length) := rfl
theorem len_lst {l : List U} : callO lenV (consO (some (U.lst l)) (some [])) = some (.int l.length) := rfl
theorem len_tup {l : List U} : callO lenV (consO (some (U.tup l)) (some [])) = some (.int l.length) := rfl
theorem eqV2_ii {i j : Int} : eqV2 (.int i) (.int j) = some (.bl (i == j)) := rfl
theorem eqV2_ss {i j : Str} : eqV2 (.str i) (.str j) = some (.bl (i == j)) := rfl
theorem atI_neg1_of {α : Type} {xs : List α} {x : α} (h : xs.getLast? = some x) : atI xs (-1) = some x := by
  obtain ⟨ys, rfl⟩ := List.getLast?_eq_some_iff.mp h
  exact atI_neg1
/-- what can come behind some rows -/
structure Next (pre : List Row) (w : Str) (ss : List Str) : Prop where
  word : Word w
  new : w ∉ names pre
  size : pre.length < 40
  first : pre = [] → ss = []
  later : pre ≠ [] → ss ≠ [] ∧ ss.length ≤ 2
  nd : ss.Nodup
  src : ∀ s ∈ ss, s ∈ names pre ∧ cnt pre s < 2
theorem are_words_ok {pre : List Row} {w : Str} {ss : List Str} (h : Next pre w ss) : m_are_words (.lst (txs (w :: ss))) (.dic (strDic (orgL pre))) = some (.bl true) := by
  unfold m_are_words
  have hlim : lim = 100000 := rfl
  have e0 : op2 getV (some (U.lst (txs (w :: ss)))) (some (U.int 0)) = some (.str w) := get0n
  have e1 : callO (a1 m_is_word) (consO (some (U.str w)) (some [])) = some (.bl true) := is_word_ok h.word
  have e2 : op2 inV2 (some (U.str w)) (some (U.dic (strDic (orgL pre)))) = some (.bl false) := by
    rw [op2_s, in_dic, orgL_keys]
    simp [h.new]
  rw [e0, e1, e2, testO_s, notO_s, testO_s, len_dic, op2_s, eqV2_ii, testO_s, len_lst]
  simp only [Bool.not_true, orO_f, ifO_f]
  have hl : (strDic (orgL pre)).length = pre.length := by simp [strDic, orgL]
  rw [hl, txs_length]
  by_cases hp : pre = []
  · have := h.first hp
    subst hp this
    rfl
  · have hpl : 0 < pre.length := List.length_pos_iff.mpr hp
    have e3 : ((pre.length : Int) == 0) = false := by simp; omega
    rw [e3, ifO_f]
    obtain ⟨hne, h2⟩ := h.later hp
    have e4 : op2 notInV2 (some (U.int ((w :: ss).length : Nat))) (tupO (consO (some (U.int 2)) (consO (some (U.int 3)) (some [])))) = some (.bl false) := by
      have : ss.length = 1 ∨ ss.length = 2 := by have := List.length_pos_iff.mpr hne; omega
      rw [List.length_cons]
      rcases this with e | e <;> rw [e] <;> rfl
    rw [e4, testO_s, orO_f]
    have e5 : andO (testO (op2 eqV2 (op2 getV (some (U.lst (txs (w :: ss)))) (some (U.int 1))) (op2 getV (some (U.lst (txs (w :: ss)))) (op1 negV (some (U.int 1)))))) (testO (op2 eqV2 (some (U.int ((w :: ss).length : Nat))) (some (U.int 3)))) = some false := by
      match ss, hne, h2, h.nd with
      | [a], _, _, _ =>
        have q1 : op2 getV (some (U.lst (txs [w, a]))) (some (U.int 1)) = some (.str a) := rfl
        have q2 : op2 getV (some (U.lst (txs [w, a]))) (op1 negV (some (U.int 1))) = some (.str a) := rfl
        rw [q1, q2, op2_s, eqV2_ss]
        simp
        rfl
      | [a, b], _, _, nd =>
        have q1 : op2 getV (some (U.lst (txs [w, a, b]))) (some (U.int 1)) = some (.str a) := rfl
        have q2 : op2 getV (some (U.lst (txs [w, a, b]))) (op1 negV (some (U.int 1))) = some (.str b) := rfl
        rw [q1, q2, op2_s, eqV2_ss]
        have : (a == b) = false := by
          simp at nd
          simpa using nd
        rw [this]
        rfl
    rw [e5, ifO_f]
    have e6 : compO (fun u34 => (some true)) (fun u34 => (op2 inV2 (some u34) (some (U.dic (strDic (orgL pre)))))) (iterO U.iter (slO (some (U.lst (txs (w :: ss)))) (ptO (some (U.int 1))) (some none))) = some (.lst (ss.map fun s => U.bl true)) := by
      have : slO (some (U.lst (txs (w :: ss)))) (ptO (some (U.int 1))) (some none) = some (.lst (txs ss)) := cut1n
      rw [this]
      refine lcO_map (g := U.str) (h := fun s => U.bl true) ss (by omega) fun s hs => ?_
      rw [op2_s, in_dic, orgL_keys, decide_eq_true (h.src s hs).1]
    rw [e6, consO_s, callO_s, all_map (p := fun _ => true)]
    simp
/-! ### what was made from each -/
def cops (rs : List Row) (n : Str) : List Str := (rs.filter fun r => decide (n ∈ r.2)).map (·.1)
def madL (rs : List Row) : List (Str × List U) := rs.map fun r => (r.1, txs (cops rs r.1))
def strM (m : List (Str × List U)) : List (Key × List U) := m.map fun kv => (Sum.inr kv.1, kv.2)
theorem madL_keys {rs : List Row} : (madL rs).map (·.1) = names rs := by simp [madL, names]
theorem cops_snoc {rs : List Row} {w n : Str} {ss : List Str} : cops (rs ++ [(w, ss)]) n = cops rs n ++ if n ∈ ss then [w] else [] := by
  simp only [cops, List.filter_append, List.map_append]
  congr 1
  by_cases h : n ∈ ss <;> simp [h]
theorem cops_len {rs : List Row} (h : Web rs) (n : Str) : (cops rs n).length = cnt rs n := by
  induction h with
  | one _ => simp [cops, cnt, srcs]
  | @snoc rs w ss _ _ _ _ _ nd _ ih =>
    rw [cops_snoc, cnt_snoc, List.length_append, ih]
    by_cases hn : n ∈ ss
    · have h1 : ss.count n ≤ 1 := List.nodup_iff_count.mp nd n
      have h2 : 0 < ss.count n := List.count_pos_iff.mpr hn
      rw [if_pos hn, List.length_singleton]; omega
    · rw [if_neg hn, List.count_eq_zero.mpr hn]; rfl
theorem app_ok {n : Str} {y : U} : ∀ {m : List (Str × List U)}, (m.map (·.1)).Nodup → appM (strM m) (Sum.inr n) y = strM (m.map fun kv => if kv.1 = n then (kv.1, kv.2 ++ [y]) else kv)
  | [], _ => rfl
  | (k, v) :: m, nd => by
    rw [List.map_cons, List.nodup_cons] at nd
    by_cases e : k = n
    · subst e
      have e1 : m.map (fun kv => if kv.1 = k then (kv.1, kv.2 ++ [y]) else kv) = m := by
        conv => rhs; rw [← List.map_id m]
        apply List.map_congr_left
        intro kv hk
        rw [if_neg (fun z => nd.1 (List.mem_map.mpr ⟨kv, hk, z⟩))]
        rfl
      show (if (Sum.inr k : Key) = Sum.inr k then _ else _) = _
      rw [if_pos rfl, List.map_cons, e1, if_pos rfl]
      rfl
    · show (if (Sum.inr k : Key) = Sum.inr n then _ else _) = _
      have ih := app_ok (n := n) (y := y) nd.2
      rw [if_neg (fun z => e (Sum.inr.inj z)), List.map_cons, if_neg e]
      show _ :: appM (strM m) (Sum.inr n) y = _
      rw [ih]
      rfl
theorem getM_ok {n : Str} : ∀ {m : List (Str × List U)}, getM (strM m) (Sum.inr n) = m.lookup n
  | [] => rfl
  | (k, v) :: m => by
    show (if (Sum.inr k : Key) = Sum.inr n then some v else getM (strM m) (Sum.inr n)) = _
    rw [List.lookup_cons]
    by_cases e : n = k
    · subst e; simp
    · have e3 : (n == k) = false := by simpa using e
      rw [e3, if_neg (fun z => e (Sum.inr.inj z).symm), getM_ok]
theorem adds_ok {w0 : U} : ∀ (ss : List Str) (m : List (Str × List U)), (m.map (·.1)).Nodup → ss.Nodup → (∀ s ∈ ss, s ∈ m.map (·.1)) → (∀ kv ∈ m, kv.2.length + ss.length < 1000) →
    addsM w0 (strM m) (txs ss) = some (strM (m.map fun kv => (kv.1, kv.2 ++ if kv.1 ∈ ss then [w0] else [])))
  | [], m, _, _, _, _ => by
    have : (m.map fun kv => (kv.1, kv.2 ++ if kv.1 ∈ ([] : List Str) then [w0] else [])) = m := by simp
    rw [this]; rfl
  | s :: ss, m, nd, nds, hs, hl => by
    rw [List.nodup_cons] at nds
    obtain ⟨⟨k, v⟩, hm, e⟩ := List.mem_map.mp (hs s (List.mem_cons_self ..))
    have e : k = s := e
    subst e
    have hlim : lim = 100000 := rfl
    have hv := hl _ hm
    have e1 : addsM w0 (strM m) (txs (k :: ss)) = addsM w0 (appM (strM m) (Sum.inr k) w0) (txs ss) := by
      show ((U.str k).key.bind fun k => (getM (strM m) k).bind fun ns => if ns.length < lim then addsM w0 (appM (strM m) k w0) (txs ss) else none) = _
      simp only [U.key, Option.bind_some, getM_ok, lookup_some nd hm]
      rw [if_pos (by simp only [List.length_cons] at hv; omega)]
    have nd2 : ((m.map fun kv => if kv.1 = k then (kv.1, kv.2 ++ [w0]) else kv).map (·.1)) = m.map (·.1) := by
      rw [List.map_map]
      apply List.map_congr_left
      intro kv _
      simp only [Function.comp_apply]
      split <;> rfl
    rw [e1, app_ok nd, adds_ok ss _ (by rw [nd2]; exact nd) nds.2 (fun x hx => by rw [nd2]; exact hs x (List.mem_cons_of_mem _ hx)) (fun kv hk => ?_)]
    · congr 2
      rw [List.map_map]
      apply List.map_congr_left
      rintro ⟨a, b⟩ ha
      simp only [Function.comp_apply, List.mem_cons]
      by_cases e : a = k
      · subst e
        simp [nds.1]
      · simp [e]
    · obtain ⟨⟨a, b⟩, ha, rfl⟩ := List.mem_map.mp hk
      have := hl _ ha
      rw [List.length_cons] at this
      split
      · simp only [List.length_append, List.length_singleton] at this ⊢; omega
      · simp only at this ⊢; omega

def madD (rs : List Row) : List (Str × U) := rs.map fun r => (r.1, .lst (txs (cops rs r.1)))
theorem madD_keys {rs : List Row} : (madD rs).map (·.1) = names rs := by simp [madD, names]
abbrev plain (rs : List Row) : U := plU (strDic (orgL rs)) (strM (madL rs))
theorem fld_org {org : List (Key × U)} {mad : List (Key × List U)} : op1 (fldV 0 "origins") (some (plU org mad)) = some (.dic org) := by
  have h1 : (("origins" : Str) == "origins") = true := by decide +kernel
  rw [op1_s]
  show (if (0 : Nat) = 0 then List.lookup ("origins" : Str) [(("origins" : Str), U.dic org), (("made" : Str), .dic (mad.map fun km => (km.1, .lst km.2)))] else none) = _
  rw [if_pos rfl, List.lookup_cons, h1]
theorem fld_made {rs : List Row} : op1 (fldV 0 "made") (some (plain rs)) = some (.dic (strDic (madD rs))) := by
  have h1 : (("made" : Str) == "origins") = false := by decide +kernel
  have h2 : (("made" : Str) == "made") = true := by decide +kernel
  rw [op1_s]
  show (if (0 : Nat) = 0 then List.lookup ("made" : Str) [(("origins" : Str), U.dic (strDic (orgL rs))), (("made" : Str), .dic ((strM (madL rs)).map fun km => (km.1, .lst km.2)))] else none) = _
  rw [if_pos rfl, List.lookup_cons, h1]
  simp only [List.lookup_cons, h2, madD, strM, strDic, madL, List.map_map]
  rfl
theorem get_made {rs : List Row} (nd : (names rs).Nodup) {n : Str} (hn : n ∈ names rs) : getV (.dic (strDic (madD rs))) (.str n) = some (.lst (txs (cops rs n))) := by
  refine get_dic (by rw [madD_keys]; exact nd) ?_
  obtain ⟨r, hr, e⟩ := List.mem_map.mp hn
  exact List.mem_map.mpr ⟨r, hr, by rw [e]⟩
theorem put_ok {pre : List Row} {w : Str} {ss : List Str} (hw : pre = [] ∨ Web pre) (h : Next pre w ss) :
    m_Plain_put (strDic (orgL pre)) (strM (madL pre)) (.lst (txs (w :: ss))) = some (true, strDic (orgL (pre ++ [(w, ss)])), strM (madL (pre ++ [(w, ss)]))) := by
  have hlim : lim = 100000 := rfl
  have nd : (names pre).Nodup := by
    rcases hw with rfl | hw
    · simp [names]
    · exact hw.nodup
  have hsl : ss.length ≤ 2 := by
    by_cases hp : pre = []
    · rw [h.first hp]; simp
    · exact (h.later hp).2
  have hcl : ∀ n, (cops pre n).length = cnt pre n := fun n => by
    rcases hw with rfl | hw
    · simp [cops, cnt, srcs]
    · exact cops_len hw n
  have h2c : ∀ n, cnt pre n ≤ 2 := fun n => by
    rcases hw with rfl | hw
    · simp [cnt, srcs]
    · exact hw.two n
  have hsz := h.size
  have t1 : m_Plain_put1 (strDic (orgL pre)) (strM (madL pre)) (.str w) (txs ss) = some false := by
    unfold m_Plain_put1
    rw [fld_org, len_dic, op2_s, eqV2_ii, testO_s]
    have e1 : (((strDic (orgL pre)).length : Int) == 40) = false := by simp [strDic, orgL]; omega
    have e2 : callO (a2 m_are_words) (consO (some (U.lst (.str w :: txs ss))) (consO (some (U.dic (strDic (orgL pre)))) (some []))) = some (.bl true) := are_words_ok h
    rw [e1, orO_f, e2, testO_s, notO_s]
    rfl
  have t2 : m_Plain_put2 (strDic (orgL pre)) (strM (madL pre)) (.str w) (txs ss) = some false := by
    unfold m_Plain_put2
    have e0 : op1 (fldV 0 "made") (some (plU (strDic (orgL pre)) (strM (madL pre)))) = some (.dic (strDic (madD pre))) := fld_made
    rw [e0]
    have e6 : compO (fun u4 => (some true)) (fun u4 => (op2 eqV2 (callO lenV (consO (op2 getV (some (U.dic (strDic (madD pre)))) (some u4)) (some []))) (some (U.int 2)))) (iterO U.iter (slO (some (U.lst (.str w :: txs ss))) (ptO (some (U.int 1))) (some none))) = some (.lst (ss.map fun s => U.bl false)) := by
      have : slO (some (U.lst (.str w :: txs ss))) (ptO (some (U.int 1))) (some none) = some (.lst (txs ss)) := cut1n
      rw [this]
      refine lcO_map (g := U.str) (h := fun s => U.bl false) ss (by omega) fun s hs => ?_
      have hs2 := h.src s hs
      rw [op2_s, get_made nd hs2.1, len_lst, op2_s, eqV2_ii, txs_length, hcl]
      have : ((cnt pre s : Int) == 2) = false := by simp; omega
      rw [this]
    rw [e6, consO_s, callO_s, any_map (p := fun _ => false)]
    simp
  show (if (txs ss).length ≤ lim then putP (m_Plain_put1 (strDic (orgL pre)) (strM (madL pre)) (.str w) (txs ss)) (m_Plain_put2 (strDic (orgL pre)) (strM (madL pre)) (.str w) (txs ss)) (strDic (orgL pre)) (strM (madL pre)) (.str w) (txs ss) else none) = _
  rw [if_pos (by rw [txs_length]; omega), t1, t2]
  unfold putP
  rw [ifO_f, ifO_f]
  show (some (Sum.inr w : Key)).bind _ = _
  rw [Option.bind_some]
  have hany : ((strM (madL pre)).any fun km => decide (km.1 = Sum.inr w)) = false := by
    rw [List.any_eq_false]
    intro km hk
    obtain ⟨⟨k, v⟩, hk2, rfl⟩ := List.mem_map.mp hk
    simp only [decide_eq_true_eq, Sum.inr.injEq]
    intro z
    subst z
    exact h.new (by rw [← madL_keys]; exact List.mem_map.mpr ⟨_, hk2, rfl⟩)
  rw [if_pos ⟨⟨by simp [strDic, orgL]; omega, by simp [strM, madL]; omega⟩, hany⟩]
  have hkn : ((madL pre ++ [(w, ([] : List U))]).map (·.1)) = names pre ++ [w] := by rw [List.map_append, madL_keys]; rfl
  have hnd : ((madL pre ++ [(w, ([] : List U))]).map (·.1)).Nodup := by
    rw [hkn, List.nodup_append]
    exact ⟨nd, by simp, fun a ha b hb e => by simp at hb; subst hb; exact h.new (e ▸ ha)⟩
  have ea := adds_ok (w0 := .str w) ss (madL pre ++ [(w, [])]) hnd h.nd (fun s hs => by rw [hkn]; exact List.mem_append_left _ (h.src s hs).1) (fun kv hk => by
    rcases List.mem_append.mp hk with hk | hk
    · obtain ⟨r, hr, rfl⟩ := List.mem_map.mp hk
      simp only [txs_length, hcl]
      have := h2c r.1
      omega
    · simp at hk; subst hk; simp; omega)
  have es : strM (madL pre) ++ [(Sum.inr w, [])] = strM (madL pre ++ [(w, [])]) := by simp [strM]
  have hws : w ∉ ss := fun z => h.new (h.src w z).1
  have hcw : cops pre w = [] := by
    have : cnt pre w = 0 := by
      rcases hw with rfl | hw
      · simp [cnt, srcs]
      · exact List.count_eq_zero.mpr fun z => h.new (hw.src w z)
    rw [← hcl] at this
    exact List.length_eq_zero_iff.mp this
  rw [es, ea, Option.map_some]
  have em : (madL pre ++ [(w, ([] : List U))]).map (fun kv : Str × List U => (kv.1, kv.2 ++ if kv.1 ∈ ss then [U.str w] else [])) = madL (pre ++ [(w, ss)]) := by
    simp only [madL, List.map_append, List.map_map, List.map_cons, List.map_nil, cops_snoc, hcw, if_neg hws]
    congr 1
    apply List.map_congr_left
    intro r _
    simp only [Function.comp_apply]
    by_cases hr : r.1 ∈ ss <;> simp [txs, hr]
  have eo : putU (strDic (orgL pre)) (Sum.inr w) (.tup (txs ss)) = strDic (orgL (pre ++ [(w, ss)])) := by
    have ha : ¬ ((strDic (orgL pre)).any fun kv => decide (kv.1 = Sum.inr w)) = true := by
      rw [List.any_eq_true]
      rintro ⟨kv, hm, e⟩
      obtain ⟨⟨k, v⟩, hk, rfl⟩ := List.mem_map.mp hm
      simp at e
      subst e
      exact h.new (by rw [← orgL_keys]; exact List.mem_map.mpr ⟨_, hk, rfl⟩)
    unfold putU
    rw [if_neg ha]
    simp [strDic, orgL]
  rw [em, eo]
theorem Web.next {rs : List Row} (h : Web rs) : ∀ (pre : List Row) (r : Row) (suf : List Row), rs = pre ++ r :: suf → rs.length ≤ 40 → (pre = [] ∨ Web pre) ∧ Next pre r.1 r.2 := by
  induction h with
  | @one w hw =>
    intro pre r suf e hl
    cases pre with
    | nil =>
      cases e
      exact ⟨.inl rfl, hw, by simp [names], by simp, fun _ => rfl, fun z => absurd rfl z, by simp, fun s hs => by cases hs⟩
    | cons a pre => simp at e
  | @snoc rs w ss hr hw hn hne h2 nd hs ih =>
    intro pre r suf e hl
    rcases List.eq_nil_or_concat suf with rfl | ⟨suf', x, rfl⟩
    · have e2 : rs ++ [(w, ss)] = pre ++ [r] := e
      obtain ⟨rfl, e3⟩ := List.append_inj' e2 rfl
      cases e3
      rw [List.length_append, List.length_singleton] at hl
      exact ⟨.inr hr, hw, hn, by omega, fun z => absurd z hr.ne, fun _ => ⟨hne, h2⟩, nd, hs⟩
    · have e2 : rs ++ [(w, ss)] = (pre ++ r :: suf') ++ [x] := by rw [e]; simp
      obtain ⟨e3, _⟩ := List.append_inj' e2 rfl
      rw [List.length_append, List.length_singleton] at hl
      exact ih pre r suf' e3 (by omega)
theorem plL_ok {rs : List Row} (h : Web rs) (hl : rs.length ≤ 40) : ∀ (suf pre : List Row), rs = pre ++ suf → plL m_Plain_put (txs (suf.map partT)) (strDic (orgL pre)) (strM (madL pre)) = some (plain rs)
  | [], pre, e => by rw [List.append_nil] at e; subst e; rfl
  | r :: suf, pre, e => by
    obtain ⟨hp, hn⟩ := h.next pre r suf e hl
    have hr : r ∈ rs := by rw [e]; simp
    have es : splitV (.str (partT r)) (.str " ") = some (.lst (txs (r.1 :: r.2))) := split_part (fun s hs => by
      rcases List.mem_cons.mp hs with rfl | hs
      · exact h.words _ (List.mem_map.mpr ⟨r, hr, rfl⟩)
      · exact h.src_word hr s hs) (part_len h hr)
    show ((splitV (.str (partT r)) (.str " ")).bind fun ws => (m_Plain_put (strDic (orgL pre)) (strM (madL pre)) ws).bind fun t => if t.1 = true then plL m_Plain_put (txs (suf.map partT)) t.2.1 t.2.2 else some .non) = _
    rw [es, Option.bind_some, put_ok hp hn, Option.bind_some, if_pos rfl]
    exact plL_ok h hl suf (pre ++ [(r.1, r.2)]) (by rw [e]; simp)
theorem plain_ok {rs : List Row} (h : Web rs) (hl : rs.length ≤ 40) : m_plain_of (.str (textT rs)) = some (plain rs) := by
  unfold m_plain_of
  have e0 : notO (testO (isO isStrB (some (U.str (textT rs))))) = some false := rfl
  have e1 : iterO U.iter (op2 splitV (some (U.str (textT rs))) (some (U.str "; "))) = some (txs (rs.map partT)) := by
    rw [op2_s, split_text h hl]; rfl
  rw [e0, Option.bind_some, if_neg Bool.false_ne_true, e1, Option.bind_some]
  exact plL_ok h hl rs [] rfl

/-! ### the lines, the copies that are no ends -/
def pairU (p : Str × Str) : U := .tup [.str p.1, .str p.2]
def linesT (rs : List Row) : List (Str × Str) := rs.flatMap fun r => r.2.map fun s => (s, r.1)
def innerT (rs : List Row) : List Str := (names rs).filter fun n => decide (n ∈ srcs rs)
theorem lines_l1 {k : U → Option U} : ∀ (suf : List Row) (acc : List (Str × Str)), (∀ r ∈ suf, r.2.length ≤ 2) → acc.length + 2 * suf.length < 1000 → m_law_lines_l1 k (rowsU suf) (.lst (acc.map pairU)) = k (.lst ((acc ++ linesT suf).map pairU))
  | [], acc, _, _ => by simp [linesT]; rfl
  | r :: suf, acc, h2, hl => by
    have hr := h2 r (List.mem_cons_self ..)
    rw [List.length_cons] at hl
    have hlim : lim = 100000 := rfl
    have e1 : compO (fun u51 => (some true)) (fun u51 => (tupO (consO (some u51) (consO (some (U.str r.1)) (some []))))) (iterO U.iter (some (U.tup (txs r.2)))) = some (.lst ((r.2.map fun s => (s, r.1)).map pairU)) := by
      rw [List.map_map]
      exact lcO_map (g := U.str) (h := fun s => pairU (s, r.1)) r.2 (by omega) fun s _ => rfl
    have e2 : op2 addV (some (U.lst (acc.map pairU))) (some (.lst ((r.2.map fun s => (s, r.1)).map pairU))) = some (.lst ((acc ++ r.2.map fun s => (s, r.1)).map pairU)) := by
      show (if (acc.map pairU).length + ((r.2.map fun s => (s, r.1)).map pairU).length ≤ lim then some (U.lst (acc.map pairU ++ (r.2.map fun s => (s, r.1)).map pairU)) else none) = _
      rw [if_pos (by simp only [List.length_map]; omega), List.map_append]
    show (op2 addV (some (U.lst (acc.map pairU))) (compO (fun u51 => (some true)) (fun u51 => (tupO (consO (some u51) (consO (some (U.str r.1)) (some []))))) (iterO U.iter (some (U.tup (txs r.2)))))).bind (fun x54 => (m_law_lines_l1 k (rowsU suf) (x54))) = _
    rw [e1, e2, Option.bind_some, lines_l1 suf _ (fun x hx => h2 x (List.mem_cons_of_mem _ hx)) (by rw [List.length_append, List.length_map]; omega)]
    simp [linesT]
theorem lines_ok {rs : List Row} (h : Web rs) (hl : rs.length ≤ 40) : m_law_lines (.lst (rowsU rs)) = some (.lst ((linesT rs).map pairU)) := by
  have := lines_l1 (k := fun x64 => (some x64)) rs [] h.row_two (by simp; omega)
  rw [List.nil_append] at this
  exact this
theorem linesT_fst {rs : List Row} : (linesT rs).map (·.1) = srcs rs := by
  simp only [linesT, srcs, List.map_flatMap, List.map_map]
  congr 1
  funext r
  simp [Function.comp_def]
theorem linesT_len {rs : List Row} (h2 : ∀ r ∈ rs, r.2.length ≤ 2) : (linesT rs).length ≤ 2 * rs.length := by
  induction rs with
  | nil => simp [linesT]
  | cons r rs ih =>
    have := ih fun x hx => h2 x (List.mem_cons_of_mem _ hx)
    have h1 := h2 r (List.mem_cons_self ..)
    simp only [linesT, List.flatMap_cons, List.length_append, List.length_map, List.length_cons] at this ⊢
    omega
/-- whether a value is this text -/
def isS (s : Str) : U → Bool
  | .str t => t == s
  | _ => false
theorem eq_str {n : Nat} {s : Str} {y : U} (h : y.plain = true) : eqO (n + 1) y (.str s) = some (isS s y) := by
  cases y <;> first | rfl | cases h
theorem str_eq {n : Nat} {s : Str} {y : U} (h : y.plain = true) : eqO (n + 1) (.str s) y = some (isS s y) := by
  cases y with
  | str t =>
    show some (s == t) = some (t == s)
    rw [Bool.beq_comm]
  | frl _ => cases h
  | dic _ => cases h
  | dit _ => cases h
  | obj _ _ => cases h
  | _ => rfl
theorem inO_str {s : Str} : ∀ {ys : List U}, (∀ y ∈ ys, y.plain = true) → inO dep (.str s) ys = some (ys.any (isS s))
  | [], _ => rfl
  | y :: ys, h => by
    show (eqO (39 + 1) y (.str s)).bind (fun a => (inO dep (.str s) ys).map fun b => a || b) = _
    rw [eq_str (h y (List.mem_cons_self ..)), Option.bind_some, inO_str fun z hz => h z (List.mem_cons_of_mem _ hz)]
    rfl
theorem inO_txs {x : U} (h : x.plain = true) : ∀ {ss : List Str}, inO dep x (txs ss) = some (ss.any fun s => isS s x)
  | [] => rfl
  | s :: ss => by
    show (eqO (39 + 1) (.str s) x).bind (fun a => (inO dep x (txs ss)).map fun b => a || b) = _
    rw [str_eq h, Option.bind_some, inO_txs h]
    rfl
theorem in_txs_lst {s : Str} {ss : List Str} : inV2 (.str s) (.lst (txs ss)) = some (.bl (decide (s ∈ ss))) := by
  show (inO dep (.str s) (txs ss)).map U.bl = _
  rw [inO_txs rfl]
  simp only [Option.map_some, isS, Option.some.injEq, U.bl.injEq]
  rw [Bool.eq_iff_iff]
  simp only [List.any_eq_true, decide_eq_true_eq, beq_iff_eq]
  exact ⟨fun ⟨x, hx, e⟩ => e ▸ hx, fun h => ⟨s, h, rfl⟩⟩
theorem in_tup {s : Str} {ys : List U} (h : ∀ y ∈ ys, y.plain = true) : inV2 (.str s) (.tup ys) = some (.bl (ys.any (isS s))) := by
  show (inO dep (.str s) ys).map U.bl = _
  rw [inO_str h]
  rfl
theorem inner_ok {rs : List Row} (h : Web rs) (hl : rs.length ≤ 40) : m_law_inner (.lst (rowsU rs)) = some (.lst (txs (innerT rs))) := by
  unfold m_law_inner
  have hlim : lim = 100000 := rfl
  have hll := linesT_len h.row_two
  have e0 : callO (a1 m_law_lines) (consO (some (U.lst (rowsU rs))) (some [])) = some (.lst ((linesT rs).map pairU)) := lines_ok h hl
  have e1 : compO (fun u4 => (some true)) (fun u4 => (op2 getV (some u4) (some (U.int 0)))) (iterO U.iter (some (U.lst ((linesT rs).map pairU)))) = some (.lst (txs (srcs rs))) := by
    rw [← linesT_fst, txs, List.map_map]
    exact lcO_map (g := pairU) (h := fun p => U.str p.1) (linesT rs) (by omega) fun p _ => rfl
  rw [e0, e1, Option.bind_some]
  have e2 := lcO_mf (p := fun u => (unp2 u).bind fun ab => testO (op2 inV2 (some ab.1) (some (U.lst (txs (srcs rs)))))) (f := fun u => (unp2 u).bind fun ab => some ab.1) (g := rowU) (q := fun r => decide (r.1 ∈ srcs rs)) (h := fun r => U.str r.1) rs (by omega) (fun r _ => by
    show testO (op2 inV2 (some (U.str r.1)) (some (U.lst (txs (srcs rs))))) = _
    rw [op2_s, in_txs_lst, testO_s]) (fun r _ _ => rfl)
  have e3 : ((rs.filter fun r => decide (r.1 ∈ srcs rs)).map fun r => U.str r.1) = txs (innerT rs) := by
    simp only [innerT, names, txs, List.filter_map, List.map_map]
    rfl
  rw [e3] at e2
  exact e2
theorem pinner_ok {rs : List Row} (h : Web rs) (hl : rs.length ≤ 40) : m_Plain_inner (plain rs) = some (.lst (txs (innerT rs))) := by
  unfold m_Plain_inner
  have hlim : lim = 100000 := rfl
  rw [fld_org, fld_made]
  have ei : iterO U.iter (some (U.dic (strDic (orgL rs)))) = some ((names rs).map U.str) := by
    show some _ = _
    simp [strDic, orgL, names, kU]
  rw [ei]
  have e2 := lcO_mf (p := fun u4 => testO (op2 gtV (callO lenV (consO (op2 getV (some (U.dic (strDic (madD rs)))) (some u4)) (some []))) (some (U.int 0)))) (f := fun u4 => some u4) (g := U.str) (q := fun n => decide (n ∈ srcs rs)) (h := U.str) (names rs) (by simp [names]; omega) (fun n hn => by
    rw [op2_s, get_made h.nodup hn, len_lst, op2_s, gtV_i, testO_s, txs_length, cops_len h]
    simp only [Option.some.injEq, decide_eq_decide]
    rw [← List.count_pos_iff]
    show _ ↔ 0 < cnt rs n
    omega) (fun n _ _ => rfl)
  exact e2

/-! ### choices -/
def fits : List Row → List U → Bool
  | r :: rs, x :: xs => (r.2.any fun s => isS s x) && fits rs xs
  | _, _ => true
def chT (rs : List Row) (xs : List U) : Bool := decide (xs.length + 1 = rs.length) && (fits rs.tail xs && (innerT rs).all fun n => xs.any (isS n))
def chB (rs : List Row) : U → Bool
  | .tup xs => chT rs xs
  | _ => false
/-- a value that may stand in the place of a choice -/
structure Thing (x : U) : Prop where
  pl : x.plain = true
  its : ∀ xs, x = .tup xs → xs.length ≤ 1000 ∧ ∀ y ∈ xs, y.plain = true
theorem isStr_plain {x : U} (h : x.plain = true) : ∃ b, isStrB x = some b ∧ (b = false → ∀ s, isS s x = false) ∧ (b = true → ∃ t, x = .str t) := by
  cases x with
  | str t => exact ⟨true, rfl, fun z => (by cases z), fun _ => ⟨t, rfl⟩⟩
  | frl _ => cases h
  | dic _ => cases h
  | dit _ => cases h
  | obj _ _ => cases h
  | _ => exact ⟨false, rfl, fun _ _ => rfl, fun z => by cases z⟩
theorem isTup_plain {x : U} (h : x.plain = true) : ∃ b, isTupB x = some b ∧ (b = false → ∀ xs, x ≠ .tup xs) ∧ (b = true → ∃ xs, x = .tup xs) := by
  cases x with
  | tup t => exact ⟨true, rfl, fun z => (by cases z), fun _ => ⟨t, rfl⟩⟩
  | frl _ => cases h
  | dic _ => cases h
  | dit _ => cases h
  | obj _ _ => cases h
  | _ => exact ⟨false, rfl, fun _ _ z => (by cases z), fun z => by cases z⟩
theorem zip_txs {ns : List Str} {xs : List U} : zipL (txs ns) xs = (ns.zip xs).map fun p => .tup [.str p.1, p.2] := by
  induction ns generalizing xs with
  | nil => cases xs <;> rfl
  | cons n ns ih =>
    cases xs with
    | nil => rfl
    | cons x xs =>
      show _ :: zipL (txs ns) xs = _
      rw [ih]
      rfl
theorem get_org {rs : List Row} (nd : (names rs).Nodup) {r : Row} (hr : r ∈ rs) : getV (.dic (strDic (orgL rs))) (.str r.1) = some (.tup (txs r.2)) :=
  get_dic (by rw [orgL_keys]; exact nd) (List.mem_map.mpr ⟨r, hr, rfl⟩)
theorem fits_range {rt : List Row} {xs : List U} (h : xs.length = rt.length) : ((List.range xs.length).all fun k => match rt[k]?, xs[k]? with | some r, some x => r.2.any fun s => isS s x | _, _ => true) = fits rt xs := by
  induction rt generalizing xs with
  | nil => cases xs with
    | nil => rfl
    | cons x xs => simp at h
  | cons r rt ih =>
    cases xs with
    | nil => simp at h
    | cons x xs =>
      rw [List.length_cons, List.range_succ_eq_map, List.all_cons, List.all_map]
      simp only [List.getElem?_cons_zero, Function.comp_def, List.getElem?_cons_succ]
      rw [ih (by simpa using h)]
      rfl
theorem is_choice_ok {rs : List Row} {x : U} (h : Web rs) (hl : rs.length ≤ 40) (hx : Thing x) : m_law_is_choice (.lst (rowsU rs)) x = some (.bl (chB rs x)) := by
  unfold m_law_is_choice
  have hlim : lim = 100000 := rfl
  obtain ⟨r0, rt, rfl⟩ : ∃ r0 rt, rs = r0 :: rt := by
    cases rs with
    | nil => exact absurd rfl h.ne
    | cons a b => exact ⟨a, b, rfl⟩
  obtain ⟨b, eb, hb0, hb1⟩ := isTup_plain hx.pl
  rw [isO_s, eb, Option.map_some, testO_s, notO_s]
  cases b with
  | false =>
    rw [Bool.not_false, orO_t, ifO_t]
    cases x with
    | tup xs => exact absurd rfl (hb0 rfl xs)
    | _ => rfl
  | true =>
    obtain ⟨xs, rfl⟩ := hb1 rfl
    obtain ⟨hxl, hxp⟩ := hx.its xs rfl
    have hrl : (rowsU (r0 :: rt)).length = rt.length + 1 := by simp [rowsU]
    have e2 : op2 neV2 (callO lenV (consO (some (U.tup xs)) (some []))) (op2 subV (callO lenV (consO (some (U.lst (rowsU (r0 :: rt)))) (some []))) (some (U.int 1))) = some (.bl (!decide (xs.length + 1 = (r0 :: rt).length))) := by
      rw [len_tup, len_lst, op2_s, subV_i, op2_s, hrl]
      show some (U.bl (!((xs.length : Int) == ((rt.length + 1 : Nat) : Int) - 1))) = _
      have e : ((xs.length : Int) == ((rt.length + 1 : Nat) : Int) - 1) = decide (xs.length + 1 = (r0 :: rt).length) := by
        rw [Bool.eq_iff_iff]
        simp
        omega
      rw [e]
    rw [Bool.not_true, orO_f, e2, testO_s]
    show _ = some (U.bl (decide (xs.length + 1 = (r0 :: rt).length) && (fits rt xs && (innerT (r0 :: rt)).all fun n => xs.any (isS n))))
    by_cases hlen : xs.length + 1 = (r0 :: rt).length
    · rw [decide_eq_true hlen, Bool.not_true, ifO_f]
      have hlen2 : xs.length = rt.length := by simpa using hlen
      have er : rngO rng1 (consO (callO lenV (consO (some (U.tup xs)) (some []))) (some [])) = some ((List.range xs.length).map fun k => U.int ((0 : Int) + (k : Nat))) := by
        rw [len_tup, consO_s, rngO_s]
        show (if (xs.length : Int) ≤ 100000 ∧ -100000 ≤ (xs.length : Int) then some (rangeU 0 (xs.length : Int).toNat) else none) = _
        rw [if_pos (by omega)]
        rfl
      have e3 : compO (fun u14 => (some true)) (fun u14 => (op2 inV2 (op2 getV (some (U.tup xs)) (some u14)) (op2 getV (op2 getV (some (U.lst (rowsU (r0 :: rt)))) (op2 addV (some u14) (some (U.int 1)))) (some (U.int 1))))) (rngO rng1 (consO (callO lenV (consO (some (U.tup xs)) (some []))) (some []))) = some (.lst ((List.range xs.length).map fun k => U.bl (match rt[k]?, xs[k]? with | some r, some x => r.2.any fun s => isS s x | _, _ => true))) := by
        rw [er]
        refine lcO_map (List.range xs.length) (by rw [List.length_range]; omega) fun k hk => ?_
        have hk := List.mem_range.mp hk
        have hk2 : k < rt.length := by omega
        have g1 : op2 getV (some (U.tup xs)) (some (U.int ((0 : Int) + (k : Nat)))) = some xs[k] := by
          rw [op2_s, Int.zero_add]
          exact atI_nat' (by simp [hk])
        have g2 : op2 getV (some (U.lst (rowsU (r0 :: rt)))) (op2 addV (some (U.int ((0 : Int) + (k : Nat)))) (some (U.int 1))) = some (rowU rt[k]) := by
          rw [op2_s, addV_i, op2_s, Int.zero_add]
          have : ((k : Int) + 1) = ((k + 1 : Nat) : Int) := by omega
          rw [this]
          exact atI_nat' (by simp [rowsU, hk2])
        have g3 : op2 getV (some (rowU rt[k])) (some (U.int 1)) = some (.tup (txs rt[k].2)) := rfl
        rw [g1, g2, g3, op2_s, List.getElem?_eq_getElem hk2, List.getElem?_eq_getElem hk]
        show (inO dep xs[k] (txs rt[k].2)).map U.bl = _
        rw [inO_txs (hxp _ (List.getElem_mem hk))]
        rfl
      rw [e3, consO_s, callO_s, all_map, fits_range hlen2, testO_s, notO_s, Bool.true_and]
      cases hf : fits rt xs with
      | false => rfl
      | true =>
        rw [Bool.not_true, ifO_f, Bool.true_and]
        have e4 : callO (a1 m_law_inner) (consO (some (U.lst (rowsU (r0 :: rt)))) (some [])) = some (.lst (txs (innerT (r0 :: rt)))) := inner_ok h hl
        have hil : (innerT (r0 :: rt)).length ≤ lim := by
          have := List.length_filter_le (fun n => decide (n ∈ srcs (r0 :: rt))) (names (r0 :: rt))
          have h2 : (names (r0 :: rt)).length = (r0 :: rt).length := by simp [names]
          show ((names (r0 :: rt)).filter _).length ≤ lim
          omega
        have e5 : compO (fun u30 => (some true)) (fun u30 => (op2 inV2 (some u30) (some (U.tup xs)))) (iterO U.iter (some (U.lst (txs (innerT (r0 :: rt)))))) = some (.lst ((innerT (r0 :: rt)).map fun n => U.bl (xs.any (isS n)))) :=
          lcO_map (g := U.str) (h := fun n => U.bl (xs.any (isS n))) (innerT (r0 :: rt)) hil fun n _ => by rw [op2_s, in_tup hxp]
        rw [e4, e5, consO_s, callO_s, all_map]
    · rw [decide_eq_false hlen]
      rfl

/-! ### all tuples of sources -/
def tupU (e : List Str) : U := .tup (txs e)
def tuplesT : List Row → List (List Str) → List (List Str)
  | [], acc => acc
  | r :: rt, acc => tuplesT rt (acc.flatMap fun e => r.2.map fun o => e ++ [o])
theorem fm_len {rs : List Str} (h : rs.length ≤ 2) : ∀ (l : List (List Str)), (l.flatMap fun e => rs.map fun o => e ++ [o]).length ≤ 2 * l.length
  | [] => by simp
  | e :: l => by
    have := fm_len h l
    simp only [List.flatMap_cons, List.length_append, List.length_map, List.length_cons] at this ⊢
    omega
theorem tuples_l2 {k : U → Option U} {ss : List Str} (h2 : ss.length ≤ 2) : ∀ (l acc : List (List Str)), acc.length + 2 * l.length ≤ 90000 → (∀ e ∈ l, e.length ≤ 1000) →
    m_law_tuples_l2 (.tup (txs ss)) k (l.map tupU) (.lst (acc.map tupU)) = k (.lst ((acc ++ l.flatMap fun e => ss.map fun o => e ++ [o]).map tupU))
  | [], acc, _, _ => by simp; rfl
  | e :: l, acc, hl, he => by
    rw [List.length_cons] at hl
    have hlim : lim = 100000 := rfl
    have hel := he e (List.mem_cons_self ..)
    have e1 : compO (fun u94 => (some true)) (fun u94 => (op2 addV (some (tupU e)) (tupO (consO (some u94) (some []))))) (iterO U.iter (some (U.tup (txs ss)))) = some (.lst ((ss.map fun o => e ++ [o]).map tupU)) := by
      rw [List.map_map]
      refine lcO_map (g := U.str) (h := fun o => tupU (e ++ [o])) ss (by omega) fun o _ => ?_
      show (if (txs e).length + [U.str o].length ≤ lim then some (U.tup (txs e ++ [U.str o])) else none) = _
      rw [if_pos (by rw [txs_length]; simp; omega)]
      simp [tupU, txs]
    have e2 : op2 addV (some (U.lst (acc.map tupU))) (some (.lst ((ss.map fun o => e ++ [o]).map tupU))) = some (.lst ((acc ++ ss.map fun o => e ++ [o]).map tupU)) := by
      show (if (acc.map tupU).length + ((ss.map fun o => e ++ [o]).map tupU).length ≤ lim then some (U.lst (acc.map tupU ++ (ss.map fun o => e ++ [o]).map tupU)) else none) = _
      rw [if_pos (by simp only [List.length_map]; omega), List.map_append]
    show (op2 addV (some (U.lst (acc.map tupU))) (compO (fun u94 => (some true)) (fun u94 => (op2 addV (some (tupU e)) (tupO (consO (some u94) (some []))))) (iterO U.iter (some (U.tup (txs ss)))))).bind (fun x97 => (m_law_tuples_l2 (.tup (txs ss)) k (l.map tupU) (x97))) = _
    rw [e1, e2, Option.bind_some, tuples_l2 h2 l _ (by rw [List.length_append, List.length_map]; omega) (fun x hx => he x (List.mem_cons_of_mem _ hx))]
    simp
theorem tuples_l1 {k : U → Option U} : ∀ (rt : List Row) (acc : List (List Str)), (∀ r ∈ rt, r.2.length ≤ 2) → acc.length * 2 ^ rt.length ≤ 40000 → (∀ e ∈ acc, e.length + rt.length ≤ 1000) →
    m_law_tuples_l1 k (rowsU rt) (.lst (acc.map tupU)) = k (.lst ((tuplesT rt acc).map tupU))
  | [], acc, _, _, _ => rfl
  | r :: rt, acc, h2, hl, he => by
    have hr := h2 r (List.mem_cons_self ..)
    have hpow : 1 ≤ 2 ^ rt.length := Nat.one_le_two_pow
    rw [List.length_cons, Nat.pow_succ] at hl
    have hal : acc.length * 2 ≤ 40000 := by
      have : acc.length * 2 * 1 ≤ acc.length * 2 * 2 ^ rt.length := Nat.mul_le_mul_left _ hpow
      have h3 : acc.length * 2 * 2 ^ rt.length = acc.length * (2 ^ rt.length * 2) := by rw [Nat.mul_assoc, Nat.mul_comm 2]
      omega
    have e0 : m_law_tuples_l1 k (rowsU (r :: rt)) (.lst (acc.map tupU)) = m_law_tuples_l2 (.tup (txs r.2)) (fun x107 => ((some x107).bind fun x114 => (m_law_tuples_l1 k (rowsU rt) (x114)))) (acc.map tupU) (.lst (([] : List (List Str)).map tupU)) := rfl
    rw [e0, tuples_l2 hr acc [] (by simp; omega) (fun e h => by have := he e h; omega), List.nil_append, Option.bind_some]
    have hfl := fm_len hr acc
    refine tuples_l1 rt _ (fun x hx => h2 x (List.mem_cons_of_mem _ hx)) ?_ fun e h => ?_
    · refine Nat.le_trans (Nat.mul_le_mul_right _ hfl) ?_
      have h3 : 2 * acc.length * 2 ^ rt.length = acc.length * (2 ^ rt.length * 2) := by rw [Nat.mul_comm 2, Nat.mul_assoc, Nat.mul_comm 2]
      omega
    · obtain ⟨x, hx, h⟩ := List.mem_flatMap.mp h
      obtain ⟨o, _, rfl⟩ := List.mem_map.mp h
      have := he x hx
      rw [List.length_cons] at this
      rw [List.length_append, List.length_singleton]
      omega
theorem tuplesT_ne {rt : List Row} : ∀ {acc : List (List Str)}, acc ≠ [] → (∀ r ∈ rt, r.2 ≠ []) → tuplesT rt acc ≠ [] := by
  induction rt with
  | nil => intro acc h _; exact h
  | cons r rt ih =>
    intro acc h hr
    refine ih ?_ fun x hx => hr x (List.mem_cons_of_mem _ hx)
    obtain ⟨a, ha⟩ := List.exists_mem_of_ne_nil acc h
    obtain ⟨o, ho⟩ := List.exists_mem_of_ne_nil r.2 (hr r (List.mem_cons_self ..))
    intro z
    have : a ++ [o] ∈ acc.flatMap fun e => r.2.map fun o => e ++ [o] := List.mem_flatMap.mpr ⟨a, ha, List.mem_map.mpr ⟨o, ho, rfl⟩⟩
    rw [z] at this
    cases this
theorem tuplesT_len {rt : List Row} : ∀ {acc : List (List Str)} {n : Nat}, (∀ e ∈ acc, e.length = n) → ∀ e ∈ tuplesT rt acc, e.length = n + rt.length := by
  induction rt with
  | nil => intro acc n h e he; exact h e he
  | cons r rt ih =>
    intro acc n h e he
    have := ih (acc := acc.flatMap fun e => r.2.map fun o => e ++ [o]) (n := n + 1) (fun x hx => by
      obtain ⟨y, hy, hx⟩ := List.mem_flatMap.mp hx
      obtain ⟨o, _, rfl⟩ := List.mem_map.mp hx
      rw [List.length_append, List.length_singleton, h y hy]) e he
    rw [this, List.length_cons]
    omega
theorem tuplesT_count {rt : List Row} : ∀ {acc : List (List Str)}, (∀ r ∈ rt, r.2.length ≤ 2) → (tuplesT rt acc).length ≤ acc.length * 2 ^ rt.length := by
  induction rt with
  | nil => intro acc _; simp [tuplesT]
  | cons r rt ih =>
    intro acc h2
    have h1 := fm_len (h2 r (List.mem_cons_self ..)) acc
    refine Nat.le_trans (ih fun x hx => h2 x (List.mem_cons_of_mem _ hx)) (Nat.le_trans (Nat.mul_le_mul_right _ h1) ?_)
    rw [List.length_cons, Nat.pow_succ, Nat.mul_comm 2, Nat.mul_assoc, Nat.mul_comm 2]
    exact Nat.le_refl _
theorem Web.tail_ne {rs : List Row} (h : Web rs) : ∀ r ∈ rs.tail, r.2 ≠ [] := by
  induction h with
  | one _ => intro r hr; cases hr
  | @snoc rs w ss h _ _ hne _ _ _ ih =>
    intro r hr
    rw [List.tail_append_of_ne_nil h.ne] at hr
    rcases List.mem_append.mp hr with hr | hr
    · exact ih r hr
    · simp at hr; subst hr; exact hne
theorem tuples_ok {rs : List Row} (h : Web rs) (hl : rs.length ≤ 12) : m_law_tuples (.lst (rowsU rs)) = some (.lst ((tuplesT rs.tail [[]]).map tupU)) := by
  obtain ⟨r0, rt, rfl⟩ : ∃ r0 rt, rs = r0 :: rt := by
    cases rs with
    | nil => exact absurd rfl h.ne
    | cons a b => exact ⟨a, b, rfl⟩
  have hrt : rt.length ≤ 11 := by simpa using hl
  have hp : 2 ^ rt.length ≤ 2 ^ 11 := Nat.pow_le_pow_right (by decide) hrt
  have := tuples_l1 (k := fun x125 => (some x125)) rt [[]] (fun r hr => h.row_two r (List.mem_cons_of_mem _ hr)) (by simp; omega) (fun e he => by simp at he; subst he; simp; omega)
  have es : slO (some (U.lst (rowsU (r0 :: rt)))) (ptO (some (U.int 1))) (some none) = some (.lst (rowsU rt)) := cut1n
  unfold m_law_tuples
  rw [es]
  exact this
theorem tuples_facts {rs : List Row} (h : Web rs) (hl : rs.length ≤ 12) : tuplesT rs.tail [[]] ≠ [] ∧ (tuplesT rs.tail [[]]).length ≤ 2048 ∧ ∀ e ∈ tuplesT rs.tail [[]], e.length ≤ 11 := by
  have hrt : rs.tail.length ≤ 11 := by rw [List.length_tail]; omega
  have hp : 2 ^ rs.tail.length ≤ 2 ^ 11 := Nat.pow_le_pow_right (by decide) hrt
  refine ⟨tuplesT_ne (by simp) h.tail_ne, ?_, fun e he => ?_⟩
  · have := tuplesT_count (rt := rs.tail) (acc := [[]]) fun r hr => h.row_two r (List.mem_of_mem_tail hr)
    simp at this hp
    omega
  · have := tuplesT_len (rt := rs.tail) (acc := [[]]) (n := 0) (fun e he => by simp at he; subst he; rfl) e he
    omega
theorem thing_tup {xs : List U} (hl : xs.length ≤ 1000) (h : ∀ y ∈ xs, y.plain = true) : Thing (.tup xs) := ⟨rfl, fun ys e => by cases e; exact ⟨hl, h⟩⟩
theorem txs_plain {e : List Str} : ∀ y ∈ txs e, y.plain = true := fun y hy => by obtain ⟨s, _, rfl⟩ := List.mem_map.mp hy; rfl
theorem thing_tups {e : List Str} (hl : e.length ≤ 1000) : Thing (tupU e) := thing_tup (by rw [txs_length]; exact hl) txs_plain

/-! ### a tuple with something put otherwise -/
theorem get_first {rs : List Row} (h : Web rs) : ∃ n, op2 getV (op2 getV (some (U.lst (rowsU rs))) (some (U.int 0))) (some (U.int 0)) = some (.str n) := by
  cases rs with
  | nil => exact absurd rfl h.ne
  | cons r rt =>
    have : op2 getV (some (U.lst (rowsU (r :: rt)))) (some (U.int 0)) = some (rowU r) := get0n
    rw [this]
    exact ⟨r.1, rfl⟩
theorem get_last {rs : List Row} (h : Web rs) : ∃ n, op2 getV (op2 getV (some (U.lst (rowsU rs))) (op1 negV (some (U.int 1)))) (some (U.int 0)) = some (.str n) := by
  obtain ⟨r0, w, ss, rfl, _⟩ := h.last
  have : op2 getV (some (U.lst (rowsU (r0 ++ [(w, ss)])))) (op1 negV (some (U.int 1))) = some (rowU (w, ss)) := by
    show atI (rowsU (r0 ++ [(w, ss)])) (-1) = _
    rw [show rowsU (r0 ++ [(w, ss)]) = rowsU r0 ++ [rowU (w, ss)] by simp [rowsU]]
    exact atI_neg1
  rw [this]
  exact ⟨w, rfl⟩
theorem cut_mem {xs : List U} {lo hi : Option Int} {y : U} (h : y ∈ cutU xs lo hi) : y ∈ xs := List.mem_of_mem_drop (List.mem_of_mem_take h)
theorem cut_len {xs : List U} {lo hi : Option Int} : (cutU xs lo hi).length ≤ xs.length := by
  unfold cutU
  rw [List.length_take, List.length_drop]
  omega
theorem addV_tup {xs ys : List U} (h : xs.length + ys.length ≤ lim) : addV (.tup xs) (.tup ys) = some (.tup (xs ++ ys)) := by
  show (if xs.length + ys.length ≤ lim then some (U.tup (xs ++ ys)) else none) = _
  rw [if_pos h]
theorem parS_s {α : Type} {x y : U} {k : U → U → SM α} : parS [x, y] k = k x y := rfl
/-! ### repr of truths -/
theorem repr_bl {b : Bool} : callO (c1 reprV) (consO (some (U.bl b)) (some [])) = some (.str (if b then "True" else "False")) := by
  cases b with
  | true =>
    have : (PyData.showable (.bool true) = true ∧ PyData.hasDict (.bool true) = false ∧ PyData.depth (.bool true) ≤ 40 ∧ (PyData.shown (.bool true)).length ≤ lim) := by decide +kernel
    show (if (PyData.showable (.bool true) = true ∧ PyData.hasDict (.bool true) = false ∧ PyData.depth (.bool true) ≤ 40 ∧ (PyData.shown (.bool true)).length ≤ lim) then some (U.str (PyData.shown (.bool true))) else none) = _
    rw [if_pos this]
    rfl
  | false =>
    have : (PyData.showable (.bool false) = true ∧ PyData.hasDict (.bool false) = false ∧ PyData.depth (.bool false) ≤ 40 ∧ (PyData.shown (.bool false)).length ≤ lim) := by decide +kernel
    show (if (PyData.showable (.bool false) = true ∧ PyData.hasDict (.bool false) = false ∧ PyData.depth (.bool false) ≤ 40 ∧ (PyData.shown (.bool false)).length ≤ lim) then some (U.str (PyData.shown (.bool false))) else none) = _
    rw [if_pos this]
    rfl
theorem repr_two {b : Bool} : ∃ s, callO (c1 reprV) (consO (some (U.lst [.bl b, .bl b])) (some [])) = some (.str s) := by
  have : ∀ b, (PyData.showable (.list [.bool b, .bool b]) = true ∧ PyData.hasDict (.list [.bool b, .bool b]) = false ∧ PyData.depth (.list [.bool b, .bool b]) ≤ 40 ∧ (PyData.shown (.list [.bool b, .bool b])).length ≤ lim) := by decide +kernel
  refine ⟨PyData.shown (.list [.bool b, .bool b]), ?_⟩
  show (if (PyData.showable (.list [.bool b, .bool b]) = true ∧ PyData.hasDict (.list [.bool b, .bool b]) = false ∧ PyData.depth (.list [.bool b, .bool b]) ≤ 40 ∧ (PyData.shown (.list [.bool b, .bool b])).length ≤ lim) then some (U.str (PyData.shown (.list [.bool b, .bool b]))) else none) = _
  rw [if_pos (this b)]
theorem ne_same {s : Str} : testO (op2 neV2 (some (U.str s)) (some (U.str s))) = some false := by
  show some (!(s == s)) = _
  simp

/-! ### the urn -/
theorem urn_l1 {p0 : U} {t : Int} {k : U → SM U} : ∀ (ns : List Int) (s : Int), ∃ s', m_law_urn_l1 p0 (.int t) k (ns.map U.int) (.int s) [] = k (.int s') []
  | [], s => ⟨s, rfl⟩
  | n :: ns, s => by
    obtain ⟨s', e⟩ := urn_l1 (p0 := p0) (t := t) (k := k) ns ((s * 48889 + n * 19 + t) % 2147482661)
    refine ⟨s', ?_⟩
    rw [← e]
    have e1 : op2 mulV (some (U.int s)) (some (U.int 48889)) = some (.int (s * 48889)) := mulV_r (by decide)
    have e2 : op2 mulV (some (U.int n)) (some (U.int 19)) = some (.int (n * 19)) := mulV_r (by decide)
    show bindS (pureS (op2 modV (callO (c1 intV) (consO (op2 addV (op2 addV (op2 mulV (some (U.int s)) (some (U.int 48889))) (op2 mulV (callO (c1 intV) (consO (some (U.int n)) (some []))) (some (U.int 19)))) (some (U.int t))) (some []))) (some (U.int 2147482661)))) (fun x46 => (m_law_urn_l1 p0 (.int t) k (ns.map U.int) (x46))) [] = _
    rw [consO_s, callO_s, intV_i, e1, e2, op2_s, addV_i, op2_s, addV_i, consO_s, callO_s, intV_i, op2_s, modV_i (by decide), bindS_pure]
theorem cut_ints {ns : List Int} {lo hi : Option Int} : cutU (ns.map U.int) lo hi = ((ns.drop (HT.sIx ns.length 0 lo)).take (HT.sIx ns.length ns.length hi - HT.sIx ns.length 0 lo)).map U.int := by
  unfold cutU
  rw [List.length_map, List.map_take, List.map_drop]
theorem urn_ok {ns : List Int} {t : Nat} (hl : ns.length ≤ 63) : ∃ u, m_law_urn (.frl (ns.map U.int)) (.int t) = some u ∧ Urn u := by
  have e1 : op2 mulV (some (U.int 40961)) (some (U.int t)) = some (.int (40961 * t)) := mulV_l (i := 40961) (j := t) (by decide)
  have es : slO (some (U.frl (ns.map U.int))) (some none) (ptO (some (U.int 7))) = some (.lst (((ns.drop (HT.sIx ns.length 0 none)).take (HT.sIx ns.length ns.length (some 7) - HT.sIx ns.length 0 none)).map U.int)) := by
    show some (U.lst (cutU (ns.map U.int) none (some 7))) = _
    rw [cut_ints]
  generalize hms : (ns.drop (HT.sIx ns.length 0 none)).take (HT.sIx ns.length ns.length (some 7) - HT.sIx ns.length 0 none) = ms at es
  have el : callO lenV (consO (some (U.frl (ns.map U.int))) (some [])) = some (.int ns.length) := by simp [lenV]
  have key : ∀ s : Int, ∃ u, (fun x58 => (bindS (pureS (ifO (testO (op2 ltV (some (U.int t)) (callO lenV (consO (some (U.frl (ns.map U.int))) (some []))))) (callO (c1 intV) (consO (op2 getV (some (U.frl (ns.map U.int))) (some (U.int t))) (some []))) (some x58))) fun x67 => (nlstS (pureS (consO (ifO (orO (testO (op2 ltV (some x67) (some (U.int 0)))) (testO (op2 geV (some x67) (op2 powV (some (U.int 10)) (some (U.int 17)))))) (callO (c1 absU) (consO (some x67) (some []))) (some (U.int 0))) (consO (op2 modV (callO (c1 intV) (consO (op2 addV (some x58) (op2 mulV (some x67) (some (U.int 31)))) (some []))) (some (U.int 2147482661))) (consO (some (U.int 0)) (some [])))))))) (U.int s) [] = some (u, []) ∧ Urn u := fun s => by
    have own : ∃ o : Int, ifO (testO (op2 ltV (some (U.int t)) (callO lenV (consO (some (U.frl (ns.map U.int))) (some []))))) (callO (c1 intV) (consO (op2 getV (some (U.frl (ns.map U.int))) (some (U.int t))) (some []))) (some (U.int s)) = some (.int o) := by
      rw [el, op2_s, ltV_i, testO_s, ifO_s]
      split
      · rename_i ht
        have ht : (t : Int) < ns.length := by simpa using ht
        have ht2 : t < ns.length := by omega
        have : op2 getV (some (U.frl (ns.map U.int))) (some (U.int t)) = some (.int ns[t]) := atI_nat' (by simp [ht2])
        rw [this]
        exact ⟨_, rfl⟩
      · exact ⟨s, rfl⟩
    obtain ⟨o, eo⟩ := own
    have ep : op2 powV (some (U.int 10)) (some (U.int 17)) = some (.int (10 ^ 17)) := by
      show (if (0 : Int) ≤ 17 ∧ (17 : Int) ≤ 1000000 ∧ (10 : Int).natAbs < 2 ^ 64 then some (U.int (10 ^ (17 : Int).toNat)) else none) = _
      rw [if_pos (by decide)]
      rfl
    have em : op2 mulV (some (U.int o)) (some (U.int 31)) = some (.int (o * 31)) := mulV_r (by decide)
    obtain ⟨a, ea⟩ : ∃ a : Int, ifO (orO (testO (op2 ltV (some (U.int o)) (some (U.int 0)))) (testO (op2 geV (some (U.int o)) (some (U.int (10 ^ 17)))))) (callO (c1 absU) (consO (some (U.int o)) (some []))) (some (U.int 0)) = some (.int a) := by
      rw [op2_s, ltV_i, testO_s, op2_s, geV_i, testO_s, orO_s, ifO_s]
      split
      · exact ⟨_, rfl⟩
      · exact ⟨_, rfl⟩
    refine ⟨.frl [.int a, .int ((s + o * 31) % 2147482661), .int 0], ?_, ⟨_, _, _, rfl⟩⟩
    show bindS _ _ [] = _
    rw [eo, bindS_pure, ep, ea, em, op2_s, addV_i, consO_s, callO_s, intV_i, op2_s, modV_i (by decide)]
    rfl
  obtain ⟨s', e2⟩ := urn_l1 (p0 := .frl (ns.map U.int)) (t := t) (k := (fun x58 => (bindS (pureS (ifO (testO (op2 ltV (some (U.int t)) (callO lenV (consO (some (U.frl (ns.map U.int))) (some []))))) (callO (c1 intV) (consO (op2 getV (some (U.frl (ns.map U.int))) (some (U.int t))) (some []))) (some x58))) fun x67 => (nlstS (pureS (consO (ifO (orO (testO (op2 ltV (some x67) (some (U.int 0)))) (testO (op2 geV (some x67) (op2 powV (some (U.int 10)) (some (U.int 17)))))) (callO (c1 absU) (consO (some x67) (some []))) (some (U.int 0))) (consO (op2 modV (callO (c1 intV) (consO (op2 addV (some x58) (op2 mulV (some x67) (some (U.int 31)))) (some []))) (some (U.int 2147482661))) (consO (some (U.int 0)) (some []))))))))) ms (271828 + 40961 * t)
  obtain ⟨u, e3, hu⟩ := key s'
  refine ⟨u, ?_, hu⟩
  have e4 : m_law_urnS (.frl (ns.map U.int)) (.int t) [] = some (u, []) := by
    refine Eq.trans ?_ (e2.trans e3)
    unfold m_law_urnS
    rw [e1, op2_s, addV_i, bindS_pure, withK_s, es]
    rfl
  show (m_law_urnS (.frl (ns.map U.int)) (.int t) []).map Prod.fst = _
  rw [e4]
  rfl
theorem callS_s {m : List U → Option U} {F : SM (List U)} {us us1 l : List U} (h : F us = some (l, us1)) : callS m F us = (m l).map fun x => (x, us1) := by
  unfold callS
  rw [bindS_s h]
  rfl
theorem lcSL_const {p : U → SM Bool} {f : U → SM U} {v : U} (hp : ∀ x us, p x us = some (true, us)) : ∀ (xs : List U) (us : List U), (∀ x ∈ xs, f x us = some (v, us)) → lcSL p f xs us = some (xs.map fun _ => v, us)
  | [], us, _ => rfl
  | x :: xs, us, h => by
    have ih := lcSL_const hp xs us fun y hy => h y (List.mem_cons_of_mem _ hy)
    unfold lcSL
    rw [bindS_s (hp x us)]
    simp only [if_true]
    rw [bindS_s (h x (List.mem_cons_self ..)), bindS_s ih]
    rfl
/-! ### lines -/
theorem eq_pair {n : Nat} {p q : Str × Str} : eqO (n + 2) (pairU p) (pairU q) = some (decide (p = q)) := by
  show ((some (p.1 == q.1)).bind fun a => (((some (p.2 == q.2)).bind fun a => ((some true : Option Bool)).map fun b => a && b)).map fun b => a && b).map (fun b => b && (([U.str p.1, U.str p.2] : List U).length == ([U.str q.1, U.str q.2] : List U).length)) = _
  obtain ⟨a, b⟩ := p
  obtain ⟨c, d⟩ := q
  simp only [Option.bind_some, Option.map_some, List.length_cons, List.length_nil, Option.some.injEq, Prod.mk.injEq, Bool.and_true, beq_self_eq_true]
  rw [Bool.eq_iff_iff]
  simp
theorem choices_ok {rs : List Row} (h : Web rs) (hl : rs.length ≤ 12) : m_law_choices (.lst (rowsU rs)) = some (.lst (((tuplesT rs.tail [[]]).filter fun e => chB rs (tupU e)).map tupU)) := by
  unfold m_law_choices
  have hlim : lim = 100000 := rfl
  obtain ⟨_, hc, hlen⟩ := tuples_facts h hl
  have et : callO (a1 m_law_tuples) (consO (some (U.lst (rowsU rs))) (some [])) = some (.lst ((tuplesT rs.tail [[]]).map tupU)) := tuples_ok h hl
  rw [et]
  refine lcO_mf (g := tupU) (h := tupU) (q := fun e => chB rs (tupU e)) (tuplesT rs.tail [[]]) (by omega) (fun e he => ?_) (fun e _ _ => rfl)
  have : callO (a2 m_law_is_choice) (consO (some (U.lst (rowsU rs))) (consO (some (tupU e)) (some []))) = some (.bl (chB rs (tupU e))) := is_choice_ok h (by omega) (thing_tups (by have := hlen e he; omega))
  rw [this, testO_s]
/-! ### lots -/
def strQ : U → Bool
  | .str _ => true
  | _ => false
def unS : List U → List Str := fun xs => xs.filterMap fun y => match y with
  | .str s => some s
  | _ => none
theorem unS_txs {ss : List Str} : unS (txs ss) = ss := by
  induction ss with
  | nil => rfl
  | cons s ss ih =>
    show s :: unS (txs ss) = _
    rw [ih]
theorem all_strQ {xs : List U} (h : xs.all strQ = true) : xs = txs (unS xs) := by
  induction xs with
  | nil => rfl
  | cons x xs ih =>
    rw [List.all_cons, Bool.and_eq_true] at h
    cases x with
    | str s =>
      show _ = U.str s :: txs (unS xs)
      rw [← ih h.2]
    | _ => cases h.1
theorem txs_strQ {ss : List Str} : (txs ss).all strQ = true := by
  induction ss with
  | nil => rfl
  | cons s ss ih => exact ih
theorem isStr_Q {y : U} (h : y.plain = true) : isStrB y = some (strQ y) := by
  cases y <;> first | rfl | cases h
theorem any_isS {s : Str} {ss : List Str} : (txs ss).any (isS s) = decide (s ∈ ss) := by
  rw [Bool.eq_iff_iff, List.any_eq_true, decide_eq_true_eq]
  constructor
  · rintro ⟨y, hy, h⟩
    obtain ⟨t, ht, rfl⟩ := List.mem_map.mp hy
    have : t = s := eq_of_beq h
    exact this ▸ ht
  · intro h
    exact ⟨.str s, List.mem_map.mpr ⟨s, h, rfl⟩, by simp [isS]⟩
theorem allO_txs {n : Nat} : ∀ {ss ts : List Str}, ss.length = ts.length → allO (eqO (n + 1)) (txs ss) (txs ts) = some (decide (ss = ts))
  | [], [], _ => rfl
  | [], _ :: _, h => by simp at h
  | _ :: _, [], h => by simp at h
  | s :: ss, t :: ts, h => by
    show ((some (s == t)).bind fun a => (allO (eqO (n + 1)) (txs ss) (txs ts)).map fun b => a && b) = _
    rw [allO_txs (by simpa using h)]
    simp only [Option.bind_some, Option.map_some, Option.some.injEq, List.cons.injEq]
    rw [Bool.eq_iff_iff]
    simp
theorem eq_lsts {ss ts : List Str} : eqV2 (.lst (txs ss)) (.lst (txs ts)) = some (.bl (decide (ss = ts))) := by
  show (if (txs ss).length = (txs ts).length then allO (eqO (38 + 1)) (txs ss) (txs ts) else some false).map U.bl = _
  rw [txs_length, txs_length]
  by_cases h : ss.length = ts.length
  · rw [if_pos h, allO_txs h]; rfl
  · rw [if_neg h]
    have : ss ≠ ts := fun z => h (by rw [z])
    rw [decide_eq_false this]; rfl
def lotB (rs : List Row) : U → Bool
  | .tup xs => xs.all strQ && decide (unS xs = (innerT rs).filter fun n => decide (n ∈ unS xs))
  | _ => false
theorem inner_len {rs : List Row} : (innerT rs).length ≤ rs.length := by
  have := List.length_filter_le (fun n => decide (n ∈ srcs rs)) (names rs)
  have h2 : (names rs).length = rs.length := by simp [names]
  show ((names rs).filter _).length ≤ _
  omega
theorem lot_core {rs : List Row} {x : U} {I : Option U} (hl : rs.length ≤ 40) (hx : Thing x) (hI : I = some (.lst (txs (innerT rs)))) :
    (ifO (orO (notO (testO (isO isTupB (some x)))) (notO (testO (callO (c1 allV) (consO (compO (fun u4 => (some true)) (fun u4 => (isO isStrB (some u4))) (iterO U.iter (some x))) (some [])))))) (some (U.bl false)) (op2 eqV2 (callO (c1 listB) (consO (some x) (some []))) (compO (fun u20 => (testO (op2 inV2 (some u20) (some x)))) (fun u20 => (some u20)) (iterO U.iter I)))) = some (.bl (lotB rs x)) := by
  have hlim : lim = 100000 := rfl
  obtain ⟨b, eb, hb0, hb1⟩ := isTup_plain hx.pl
  rw [isO_s, eb, Option.map_some, testO_s, notO_s]
  cases b with
  | false =>
    rw [Bool.not_false, orO_t, ifO_t]
    cases x with
    | tup xs => exact absurd rfl (hb0 rfl xs)
    | _ => rfl
  | true =>
    obtain ⟨xs, rfl⟩ := hb1 rfl
    obtain ⟨hxl, hxp⟩ := hx.its xs rfl
    have e1 : compO (fun u4 => (some true)) (fun u4 => (isO isStrB (some u4))) (iterO U.iter (some (U.tup xs))) = some (.lst (xs.map fun y => U.bl (strQ y))) := by
      have := lcO_map (f := fun u4 => (isO isStrB (some u4))) (g := id) (h := fun y => U.bl (strQ y)) xs (by omega) fun y hy => by
        show isO isStrB (some y) = _
        rw [isO_s, isStr_Q (hxp y hy)]
        rfl
      rw [List.map_id] at this
      exact this
    rw [e1, consO_s, callO_s, all_map, testO_s, notO_s, Bool.not_true, orO_f]
    show _ = some (U.bl (xs.all strQ && decide (unS xs = (innerT rs).filter fun n => decide (n ∈ unS xs))))
    cases hq : xs.all strQ with
    | false => rfl
    | true =>
      have hxs := all_strQ hq
      rw [Bool.not_true, ifO_f, Bool.true_and, hI]
      have e2 : callO (c1 listB) (consO (some (U.tup xs)) (some [])) = some (.lst (txs (unS xs))) := by
        show some (U.lst xs) = _
        rw [← hxs]
      have hin := inner_len (rs := rs)
      have e3 := lcO_mf (p := fun u20 => testO (op2 inV2 (some u20) (some (U.tup xs)))) (f := fun u20 => some u20) (g := U.str) (q := fun n => decide (n ∈ unS xs)) (h := U.str) (innerT rs) (by omega) (fun n _ => by
        rw [op2_s, in_tup hxp, testO_s]
        conv => lhs; rw [hxs]
        rw [any_isS]) (fun _ _ _ => rfl)
      have e4 : compO (fun u20 => (testO (op2 inV2 (some u20) (some (U.tup xs))))) (fun u20 => (some u20)) (iterO U.iter (some (U.lst (txs (innerT rs))))) = some (.lst (txs ((innerT rs).filter fun n => decide (n ∈ unS xs)))) := e3
      rw [e2, e4, op2_s, eq_lsts]
theorem meth_inner {rs : List Row} (h : Web rs) (hl : rs.length ≤ 40) : methO 0 "inner" (a1 m_Plain_inner) (some (plain rs)) (some []) = some (.lst (txs (innerT rs))) := by
  have hn : noneQ (([(("origins" : Str), U.dic (strDic (orgL rs))), (("made" : Str), .dic ((strM (madL rs)).map fun km => (km.1, .lst km.2)))] : List (Str × U)).lookup ("inner" : Str)) = true := by
    have h1 : (("inner" : Str) == "origins") = false := by decide +kernel
    have h2 : (("inner" : Str) == "made") = false := by decide +kernel
    simp only [List.lookup_cons, h1, h2, List.lookup_nil]
    rfl
  unfold methO plain plU
  simp only [Option.bind_some]
  rw [if_pos ⟨trivial, hn⟩]
  exact pinner_ok h hl
theorem law_lot_ok {rs : List Row} {x : U} (h : Web rs) (hl : rs.length ≤ 40) (hx : Thing x) : m_law_is_lot (.lst (rowsU rs)) x = some (.bl (lotB rs x)) := lot_core hl hx (inner_ok h hl)
theorem lot_ok {rs : List Row} {x : U} (h : Web rs) (hl : rs.length ≤ 40) (hx : Thing x) : m_is_lot (plain rs) x = some (.bl (lotB rs x)) := lot_core hl hx (meth_inner h hl)
/-! ### the copies of a lot -/
def lkU : Option (Str × Str) → U
  | none => .non
  | some p => pairU p
def madeQ (ss : List Str) (lk : Option (Str × Str)) (r : Row) : Bool := r.2.any fun s => decide (s ∈ ss) && !decide (lk = some (s, r.1))
def madeR (rs : List Row) (ss : List Str) (lk : Option (Str × Str)) : List Row := rs.filter (madeQ ss lk)
theorem ne_link {s w : Str} {lk : Option (Str × Str)} : op2 neV2 (tupO (consO (some (U.str s)) (consO (some (U.str w)) (some [])))) (some (lkU lk)) = some (.bl (!decide (lk = some (s, w)))) := by
  rw [consO_s, consO_s, tupO2, op2_s]
  cases lk with
  | none => rfl
  | some p =>
    show (eqO (38 + 2) (pairU (s, w)) (pairU p)).map (fun b => U.bl (!b)) = _
    rw [eq_pair, Option.map_some]
    congr 3
    rw [decide_eq_decide]
    exact ⟨fun z => by rw [z], fun z => (Option.some.inj z).symm⟩
theorem made_any {ss : List Str} {lk : Option (Str × Str)} {r : Row} (h2 : r.2.length ≤ 2) : testO (callO (c1 anyV) (consO (compO (fun u51 => (some true)) (fun u51 => (andV (op2 inV2 (some u51) (some (U.tup (txs ss)))) (op2 neV2 (tupO (consO (some u51) (consO (some (U.str r.1)) (some [])))) (some (lkU lk))))) (iterO U.iter (some (U.tup (txs r.2))))) (some []))) = some (madeQ ss lk r) := by
  have hlim : lim = 100000 := rfl
  have e : compO (fun u51 => (some true)) (fun u51 => (andV (op2 inV2 (some u51) (some (U.tup (txs ss)))) (op2 neV2 (tupO (consO (some u51) (consO (some (U.str r.1)) (some [])))) (some (lkU lk))))) (iterO U.iter (some (U.tup (txs r.2)))) = some (.lst (r.2.map fun s => U.bl (decide (s ∈ ss) && !decide (lk = some (s, r.1))))) := by
    refine lcO_map (g := U.str) (h := fun s => U.bl (decide (s ∈ ss) && !decide (lk = some (s, r.1)))) r.2 (by omega) fun s _ => ?_
    rw [ne_link, op2_s, in_tup txs_plain, any_isS, andV_s]
  rw [e, consO_s, callO_s, any_map, testO_s]
  rfl
theorem law_made_l1 {ss : List Str} {lk : Option (Str × Str)} {k : SM U} : ∀ (suf : List Row) (acc : List Str), (∀ r ∈ suf, r.2.length ≤ 2) → acc.length + suf.length < 1000 → m_law_made_l1 (.tup (txs ss)) (lkU lk) k (rowsU suf) [.frl (txs acc)] = k [.frl (txs (acc ++ names (madeR suf ss lk)))]
  | [], acc, _, _ => by simp [madeR, names]; rfl
  | r :: suf, acc, h2, hl => by
    rw [List.length_cons] at hl
    have hlim : lim = 100000 := rfl
    have e := made_any (ss := ss) (lk := lk) (h2 r (List.mem_cons_self ..))
    show (ifS (pureS (testO (callO (c1 anyV) (consO (compO (fun u51 => (some true)) (fun u51 => (andV (op2 inV2 (some u51) (some (U.tup (txs ss)))) (op2 neV2 (tupO (consO (some u51) (consO (some (U.str r.1)) (some [])))) (some (lkU lk))))) (iterO U.iter (some (U.tup (txs r.2))))) (some []))))) (bindS (bindS (pureS (some (U.str r.1))) fun y => appS 0 y) fun _ => (m_law_made_l1 (.tup (txs ss)) (lkU lk) k (rowsU suf))) (m_law_made_l1 (.tup (txs ss)) (lkU lk) k (rowsU suf))) [.frl (txs acc)] = _
    rw [e, ifS_p]
    have hm : madeR (r :: suf) ss lk = if madeQ ss lk r = true then r :: madeR suf ss lk else madeR suf ss lk := by
      show List.filter _ _ = _
      rw [List.filter_cons]
      rfl
    rw [hm]
    cases madeQ ss lk r with
    | true =>
      rw [if_pos rfl, if_pos rfl]
      have ea : bindS (pureS (some (U.str r.1))) (fun y => appS 0 y) [.frl (txs acc)] = some (.non, [.frl (txs (acc ++ [r.1]))]) := by
        show (if (txs acc).length < lim then some (U.non, [U.frl (txs acc)].set 0 (.frl (txs acc ++ [.str r.1]))) else none) = _
        rw [if_pos (by rw [txs_length]; omega)]
        simp [txs]
      rw [bindS_s ea, law_made_l1 suf _ (fun x hx => h2 x (List.mem_cons_of_mem _ hx)) (by rw [List.length_append, List.length_singleton]; omega)]
      simp [names]
    | false =>
      rw [if_neg Bool.false_ne_true, if_neg Bool.false_ne_true]
      exact law_made_l1 suf acc (fun x hx => h2 x (List.mem_cons_of_mem _ hx)) (by omega)
theorem law_made_ok {rs : List Row} {ss : List Str} {lk : Option (Str × Str)} (h : Web rs) (hl : rs.length ≤ 40) : m_law_made (.lst (rowsU rs)) (.tup (txs ss)) (lkU lk) = some (.lst (txs (names (madeR rs ss lk)))) := by
  have e := law_made_l1 (ss := ss) (lk := lk) (k := takeS 0) rs [] h.row_two (by simp; omega)
  rw [List.nil_append] at e
  have e2 : m_law_madeS (.lst (rowsU rs)) (.tup (txs ss)) (lkU lk) [] = m_law_made_l1 (.tup (txs ss)) (lkU lk) (takeS 0) (rowsU rs) [.frl (txs [])] := rfl
  show (m_law_madeS (.lst (rowsU rs)) (.tup (txs ss)) (lkU lk) []).map Prod.fst = _
  rw [e2, e]
  rfl
theorem made_l1 {rs : List Row} {ss : List Str} {lk : Option (Str × Str)} {k : SM U} (hw : Web rs) : ∀ (suf : List Row) (acc : List Str), (∀ r ∈ suf, r ∈ rs) → acc.length + suf.length < 1000 → m_made_of_l1 (plain rs) (.tup (txs ss)) (lkU lk) k (txs (names suf)) [.frl (txs acc)] = k [.frl (txs (acc ++ names (madeR suf ss lk)))]
  | [], acc, _, _ => by simp [madeR, names]; rfl
  | r :: suf, acc, hs, hl => by
    rw [List.length_cons] at hl
    have hlim : lim = 100000 := rfl
    have hr := hs r (List.mem_cons_self ..)
    have e := made_any (ss := ss) (lk := lk) (hw.row_two r hr)
    have eg : op2 getV (op1 (fldV 0 "origins") (some (plain rs))) (some (U.str r.1)) = some (.tup (txs r.2)) := by
      rw [fld_org, op2_s]; exact get_org hw.nodup hr
    show (ifS (pureS (testO (callO (c1 anyV) (consO (compO (fun u42 => (some true)) (fun u42 => (andV (op2 inV2 (some u42) (some (U.tup (txs ss)))) (op2 neV2 (tupO (consO (some u42) (consO (some (U.str r.1)) (some [])))) (some (lkU lk))))) (iterO U.iter (op2 getV (op1 (fldV 0 "origins") (some (plain rs))) (some (U.str r.1))))) (some []))))) (bindS (bindS (pureS (some (U.str r.1))) fun y => appS 0 y) fun _ => (m_made_of_l1 (plain rs) (.tup (txs ss)) (lkU lk) k (txs (names suf)))) (m_made_of_l1 (plain rs) (.tup (txs ss)) (lkU lk) k (txs (names suf)))) [.frl (txs acc)] = _
    rw [eg, e, ifS_p]
    have hm : madeR (r :: suf) ss lk = if madeQ ss lk r = true then r :: madeR suf ss lk else madeR suf ss lk := by
      show List.filter _ _ = _
      rw [List.filter_cons]
      rfl
    rw [hm]
    cases madeQ ss lk r with
    | true =>
      rw [if_pos rfl, if_pos rfl]
      have ea : bindS (pureS (some (U.str r.1))) (fun y => appS 0 y) [.frl (txs acc)] = some (.non, [.frl (txs (acc ++ [r.1]))]) := by
        show (if (txs acc).length < lim then some (U.non, [U.frl (txs acc)].set 0 (.frl (txs acc ++ [.str r.1]))) else none) = _
        rw [if_pos (by rw [txs_length]; omega)]
        simp [txs]
      rw [bindS_s ea, made_l1 hw suf _ (fun x hx => hs x (List.mem_cons_of_mem _ hx)) (by rw [List.length_append, List.length_singleton]; omega)]
      simp [names]
    | false =>
      rw [if_neg Bool.false_ne_true, if_neg Bool.false_ne_true]
      exact made_l1 hw suf acc (fun x hx => hs x (List.mem_cons_of_mem _ hx)) (by omega)
theorem made_ok {rs : List Row} {ss : List Str} {lk : Option (Str × Str)} (h : Web rs) (hl : rs.length ≤ 40) : m_made_of (plain rs) (.tup (txs ss)) (lkU lk) = some (.lst (txs (names (madeR rs ss lk)))) := by
  have e := made_l1 (ss := ss) (lk := lk) (k := takeS 0) h rs [] (fun r hr => hr) (by simp; omega)
  rw [List.nil_append] at e
  have ei : iterO U.iter (op1 (fldV 0 "origins") (some (plain rs))) = some (txs (names rs)) := by
    rw [fld_org]
    show some _ = _
    simp [strDic, orgL, names, kU, txs]
  have e2 : m_made_ofS (plain rs) (.tup (txs ss)) (lkU lk) [] = m_made_of_l1 (plain rs) (.tup (txs ss)) (lkU lk) (takeS 0) (txs (names rs)) [.frl (txs [])] := by
    unfold m_made_ofS
    rw [ei]
    rfl
  show (m_made_ofS (plain rs) (.tup (txs ss)) (lkU lk) []).map Prod.fst = _
  rw [e2, e]
  rfl
def lackB (rs : List Row) : U → Bool
  | .tup xs => lotB rs (.tup xs) && decide ((madeR rs (unS xs) none).length < xs.length)
  | _ => false
theorem lack_core {rs : List Row} {x : U} {L M : Option U} (hL : L = some (.bl (lotB rs x))) (hM : ∀ ss, x = .tup (txs ss) → M = some (.lst (txs (names (madeR rs ss none))))) : andV L (op2 ltV (callO lenV (consO M (some []))) (callO lenV (consO (some x) (some [])))) = some (.bl (lackB rs x)) := by
  rw [hL]
  cases x with
  | tup xs =>
    show _ = some (U.bl (lotB rs (.tup xs) && decide ((madeR rs (unS xs) none).length < xs.length)))
    cases hq : lotB rs (.tup xs) with
    | false => rfl
    | true =>
      have h1 : (xs.all strQ && decide (unS xs = (innerT rs).filter fun n => decide (n ∈ unS xs))) = true := hq
      rw [Bool.and_eq_true] at h1
      have hxs := all_strQ h1.1
      rw [andV_t, hM (unS xs) (by rw [← hxs]), len_lst, len_tup, op2_s, ltV_i, Bool.true_and, txs_length]
      congr 2
      rw [decide_eq_decide]
      simp [names]
  | _ => rfl
theorem law_lacks_ok {rs : List Row} {x : U} (h : Web rs) (hl : rs.length ≤ 40) (hx : Thing x) : m_law_lacks (.lst (rowsU rs)) x = some (.bl (lackB rs x)) :=
  lack_core (law_lot_ok h hl hx) fun ss e => by subst e; exact law_made_ok (lk := none) h hl
theorem lack_ok {rs : List Row} {x : U} (h : Web rs) (hl : rs.length ≤ 40) (hx : Thing x) : m_shows_lack (plain rs) x = some (.bl (lackB rs x)) :=
  lack_core (lot_ok h hl hx) fun ss e => by subst e; exact made_ok (lk := none) h hl
/-! ### all lots -/
def lotsT : List Str → List (List Str) → List (List Str)
  | [], acc => acc
  | w :: ws, acc => lotsT ws (acc ++ acc.map fun e => e ++ [w])
theorem lots_l1 {k : U → Option U} : ∀ (ws : List Str) (acc : List (List Str)), acc.length * 2 ^ ws.length ≤ 40000 → (∀ e ∈ acc, e.length + ws.length ≤ 1000) → m_law_lots_l1 k (txs ws) (.lst (acc.map tupU)) = k (.lst ((lotsT ws acc).map tupU))
  | [], acc, _, _ => rfl
  | w :: ws, acc, hl, he => by
    have hlim : lim = 100000 := rfl
    have hpow : 1 ≤ 2 ^ ws.length := Nat.one_le_two_pow
    rw [List.length_cons, Nat.pow_succ] at hl
    have hal : acc.length * 2 ≤ 40000 := by
      have : acc.length * 2 * 1 ≤ acc.length * 2 * 2 ^ ws.length := Nat.mul_le_mul_left _ hpow
      have h3 : acc.length * 2 * 2 ^ ws.length = acc.length * (2 ^ ws.length * 2) := by rw [Nat.mul_assoc, Nat.mul_comm 2]
      omega
    have e1 : compO (fun u43 => (some true)) (fun u43 => (op2 addV (some u43) (tupO (consO (some (U.str w)) (some []))))) (iterO U.iter (some (U.lst (acc.map tupU)))) = some (.lst ((acc.map fun e => e ++ [w]).map tupU)) := by
      rw [List.map_map]
      refine lcO_map (g := tupU) (h := fun e => tupU (e ++ [w])) acc (by omega) fun e hee => ?_
      have := he e hee
      show (if (txs e).length + [U.str w].length ≤ lim then some (U.tup (txs e ++ [U.str w])) else none) = _
      rw [if_pos (by rw [txs_length]; simp; omega)]
      simp [tupU, txs]
    have e2 : op2 addV (some (U.lst (acc.map tupU))) (some (.lst ((acc.map fun e => e ++ [w]).map tupU))) = some (.lst ((acc ++ acc.map fun e => e ++ [w]).map tupU)) := by
      show (if (acc.map tupU).length + ((acc.map fun e => e ++ [w]).map tupU).length ≤ lim then some (U.lst (acc.map tupU ++ (acc.map fun e => e ++ [w]).map tupU)) else none) = _
      rw [if_pos (by simp only [List.length_map]; omega), List.map_append]
    show (op2 addV (some (U.lst (acc.map tupU))) (compO (fun u43 => (some true)) (fun u43 => (op2 addV (some u43) (tupO (consO (some (U.str w)) (some []))))) (iterO U.iter (some (U.lst (acc.map tupU)))))).bind (fun x46 => (m_law_lots_l1 k (txs ws) (x46))) = _
    rw [e1, e2, Option.bind_some]
    refine lots_l1 ws _ ?_ fun e h => ?_
    · rw [List.length_append, List.length_map]
      have h3 : (acc.length + acc.length) * 2 ^ ws.length = acc.length * (2 ^ ws.length * 2) := by rw [← Nat.mul_two, Nat.mul_assoc, Nat.mul_comm 2]
      omega
    · rcases List.mem_append.mp h with h | h
      · have := he e h; rw [List.length_cons] at this; omega
      · obtain ⟨x, hx, rfl⟩ := List.mem_map.mp h
        have := he x hx
        rw [List.length_cons] at this
        rw [List.length_append, List.length_singleton]
        omega
theorem lotsT_len : ∀ (ws : List Str) (acc : List (List Str)) (n : Nat), (∀ e ∈ acc, e.length ≤ n) → ∀ e ∈ lotsT ws acc, e.length ≤ n + ws.length
  | [], acc, n, h, e, he => h e he
  | w :: ws, acc, n, h, e, he => by
    have := lotsT_len ws (acc ++ acc.map fun e => e ++ [w]) (n + 1) (fun x hx => by
      rcases List.mem_append.mp hx with hx | hx
      · have := h x hx; omega
      · obtain ⟨y, hy, rfl⟩ := List.mem_map.mp hx
        have := h y hy
        rw [List.length_append, List.length_singleton]; omega) e he
    rw [List.length_cons]; omega
theorem lotsT_count : ∀ (ws : List Str) (acc : List (List Str)), (lotsT ws acc).length = acc.length * 2 ^ ws.length
  | [], acc => by simp [lotsT]
  | w :: ws, acc => by
    show (lotsT ws (acc ++ acc.map fun e => e ++ [w])).length = _
    rw [lotsT_count, List.length_append, List.length_map, List.length_cons, Nat.pow_succ, ← Nat.mul_two, Nat.mul_assoc, Nat.mul_comm 2]
theorem lotsT_mem {P : Str → Bool} : ∀ (ws : List Str) (acc : List (List Str)) (e : List Str), e ∈ acc → e ++ ws.filter P ∈ lotsT ws acc
  | [], acc, e, h => by
    show e ++ [] ∈ acc
    rw [List.append_nil]; exact h
  | w :: ws, acc, e, h => by
    rw [List.filter_cons]
    cases P w with
    | true =>
      have := lotsT_mem (P := P) ws (acc ++ acc.map fun e => e ++ [w]) (e ++ [w]) (List.mem_append_right _ (List.mem_map.mpr ⟨e, h, rfl⟩))
      rw [List.append_assoc] at this
      exact this
    | false => exact lotsT_mem ws _ e (List.mem_append_left _ h)
theorem lots_ok {rs : List Row} (h : Web rs) (hl : rs.length ≤ 12) : m_law_lots (.lst (rowsU rs)) = some (.lst ((lotsT (innerT rs) [[]]).map tupU)) := by
  have hi := inner_len (rs := rs)
  have hp : 2 ^ (innerT rs).length ≤ 2 ^ 12 := Nat.pow_le_pow_right (by decide) (by omega)
  have e := lots_l1 (k := fun x56 => (some x56)) (innerT rs) [[]] (by simp; omega) (fun e he => by simp at he; subst he; simp; omega)
  have ei : callO (a1 m_law_inner) (consO (some (U.lst (rowsU rs))) (some [])) = some (.lst (txs (innerT rs))) := inner_ok h (by omega)
  unfold m_law_lots
  rw [ei]
  exact e
theorem lots_facts {rs : List Row} (hl : rs.length ≤ 12) : lotsT (innerT rs) [[]] ≠ [] ∧ (lotsT (innerT rs) [[]]).length ≤ 4096 ∧ ∀ e ∈ lotsT (innerT rs) [[]], e.length ≤ 12 := by
  have hi := inner_len (rs := rs)
  have hp : 2 ^ (innerT rs).length ≤ 2 ^ 12 := Nat.pow_le_pow_right (by decide) (by omega)
  refine ⟨fun z => ?_, ?_, fun e he => ?_⟩
  · have := lotsT_mem (P := fun _ => true) (innerT rs) [[]] [] (by simp)
    rw [z] at this; cases this
  · rw [lotsT_count]; simp at hp ⊢; omega
  · have := lotsT_len (innerT rs) [[]] 0 (fun e he => by simp at he; subst he; simp) e he
    omega
/-! ### a lot put otherwise -/
theorem bent_lot_ok {u : U} {rs : List Row} {e : List Str} (hu : Urn u) (h : Web rs) (he : e.length ≤ 12) : ∃ z u', b2 m_law_bent_lot u [.lst (rowsU rs), tupU e] = some (z, u') ∧ Urn u' ∧ Thing z := by
  have hlim : lim = 100000 := rfl
  have hel : callO lenV (consO (some (tupU e)) (some [])) = some (.int e.length) := by simp [lenV, tupU, txs]
  obtain ⟨r1, u1, e1, hu1, _, _⟩ := pull_at (t := []) (n := (e.length : Int) + 1) hu (by omega) (by omega)
  obtain ⟨r2, u2, e2, hu2, _, _⟩ := pull_at (t := []) (n := 7) hu1 (by decide) (by decide)
  obtain ⟨n0, en0⟩ := get_first h
  obtain ⟨n1, en1⟩ := get_last h
  have hps : (∀ y ∈ txs e, y.plain = true) := txs_plain
  let odds : List U := [.str n1, .str n0, .str "q", .str "", .non, .int 0, .bl true, .tup [.str "a"], .lst [.str "a"]]
  obtain ⟨odd, u3, e3, hu3, ho⟩ := of_at (t := []) (xs := odds) hu2 (by simp [odds]) (by show 9 ≤ lim; decide)
  have hop : odd.plain = true := by
    simp only [odds, List.mem_cons, List.not_mem_nil, or_false] at ho
    rcases ho with rfl | rfl | rfl | rfl | rfl | rfl | rfl | rfl | rfl <;> rfl
  have hxl : (txs e).length ≤ 12 := by rw [txs_length]; exact he
  have em : ∀ z, Thing z → (ifS (pureS (testO (op2 eqV2 (some (U.int r2)) (some (U.int 0))))) (pureS (callO (c1 listB) (consO (some (tupU e)) (some [])))) (ifS (pureS (testO (op2 eqV2 (some (U.int r2)) (some (U.int 1))))) (pureS (op2 stepV (some (tupU e)) (op1 negV (some (U.int 1))))) (ifS (pureS (testO (op2 eqV2 (some (U.int r2)) (some (U.int 2))))) (pureS (op2 addV (some (tupU e)) (slO (some (tupU e)) (some none) (ptO (some (U.int 1)))))) (ifS (pureS (testO (op2 ltV (some (U.int r2)) (some (U.int 5))))) (pureS (op2 addV (op2 addV (slO (some (tupU e)) (some none) (ptO (some (U.int r1)))) (tupO (consO (some odd) (some [])))) (slO (some (tupU e)) (ptO (op2 subV (op2 addV (some (U.int r1)) (some (U.int r2))) (some (U.int 3)))) (some none)))) (pureS (some (tupU e))))))) [u3] = some (z, [u3]) → ∃ z u', b2 m_law_bent_lot u [.lst (rowsU rs), tupU e] = some (z, u') ∧ Urn u' ∧ Thing z := fun z hz ez => by
    refine ⟨z, u3, ?_, hu3, hz⟩
    show finS (m_law_bent_lot (.lst (rowsU rs)) (tupU e) [u]) = _
    have q1 : bindS (pureS (consO (op2 addV (callO lenV (consO (some (tupU e)) (some []))) (some (U.int 1))) (some []))) (fun xs => callM 0 (b1 m_law_pull) xs) [u] = some (.int r1, [u1]) := by
      rw [hel]; exact e1
    have q2 : bindS (pureS (consO (some (U.int 7)) (some []))) (fun xs => callM 0 (b1 m_law_pull) xs) [u1] = some (.int r2, [u2]) := e2
    have q3 : bindS (pureS (consO (lstO (consO (op2 getV (op2 getV (some (U.lst (rowsU rs))) (op1 negV (some (U.int 1)))) (some (U.int 0))) (consO (op2 getV (op2 getV (some (U.lst (rowsU rs))) (some (U.int 0))) (some (U.int 0))) (consO (some (U.str "q")) (consO (some (U.str "")) (consO (some U.non) (consO (some (U.int 0)) (consO (some (U.bl true)) (consO (tupO (consO (some (U.str "a")) (some []))) (consO (lstO (consO (some (U.str "a")) (some []))) (some []))))))))))) (some []))) (fun xs => callM 0 (b1 m_law_of) xs) [u2] = some (odd, [u3]) := by
      rw [en0, en1]
      exact e3
    unfold m_law_bent_lot
    rw [bindS_s (consS_s q1 (consS_s q2 rfl)), parS_s, bindS_s q3, ez]
    simp [finS, hu3.own]
  have eqw : ∀ n : Int, testO (op2 eqV2 (some (U.int r2)) (some (U.int n))) = some (r2 == n) := fun n => rfl
  by_cases c0 : r2 = 0
  · subst c0
    exact em (.lst (txs e)) ⟨rfl, fun ys z => by cases z⟩ rfl
  · by_cases c1 : r2 = 1
    · subst c1
      exact em (.tup (txs e).reverse) (thing_tup (by rw [List.length_reverse]; omega) fun y hy => hps y (List.mem_reverse.mp hy)) rfl
    · by_cases c2 : r2 = 2
      · refine em (.tup (txs e ++ cutU (txs e) none (some 1))) (thing_tup ?_ fun y hy => ?_) ?_
        · have := cut_len (xs := txs e) (lo := none) (hi := some 1)
          rw [List.length_append]; omega
        · rcases List.mem_append.mp hy with hy | hy
          · exact hps y hy
          · exact hps y (cut_mem hy)
        · have a3 : op2 addV (some (tupU e)) (slO (some (tupU e)) (some none) (ptO (some (U.int 1)))) = some (.tup (txs e ++ cutU (txs e) none (some 1))) := by
            refine addV_tup ?_
            have := cut_len (xs := txs e) (lo := none) (hi := some 1)
            omega
          rw [a3, eqw, show (r2 == 0) = false by simpa using c0, ifS_p, if_neg Bool.false_ne_true, eqw, show (r2 == 1) = false by simpa using c1, ifS_p, if_neg Bool.false_ne_true, eqw, show (r2 == 2) = true by simpa using c2, ifS_p, if_pos rfl]
          rfl
      · by_cases c3 : r2 < 5
        · refine em (.tup ((cutU (txs e) none (some r1) ++ [odd]) ++ cutU (txs e) (some (r1 + r2 - 3)) none)) (thing_tup ?_ fun y hy => ?_) ?_
          · have := cut_len (xs := txs e) (lo := none) (hi := some r1)
            have := cut_len (xs := txs e) (lo := some (r1 + r2 - 3)) (hi := none)
            simp only [List.length_append, List.length_singleton]
            omega
          · rcases List.mem_append.mp hy with hy | hy
            · rcases List.mem_append.mp hy with hy | hy
              · exact hps y (cut_mem hy)
              · simp at hy; subst hy; exact hop
            · exact hps y (cut_mem hy)
          · have a1 : op2 addV (slO (some (tupU e)) (some none) (ptO (some (U.int r1)))) (tupO (consO (some odd) (some []))) = some (.tup (cutU (txs e) none (some r1) ++ [odd])) := by
              refine addV_tup ?_
              have := cut_len (xs := txs e) (lo := none) (hi := some r1)
              simp only [List.length_singleton]
              omega
            have a2 : op2 addV (some (U.tup (cutU (txs e) none (some r1) ++ [odd]))) (slO (some (tupU e)) (ptO (op2 subV (op2 addV (some (U.int r1)) (some (U.int r2))) (some (U.int 3)))) (some none)) = some (.tup ((cutU (txs e) none (some r1) ++ [odd]) ++ cutU (txs e) (some (r1 + r2 - 3)) none)) := by
              refine addV_tup ?_
              have := cut_len (xs := txs e) (lo := none) (hi := some r1)
              have := cut_len (xs := txs e) (lo := some (r1 + r2 - 3)) (hi := none)
              simp only [List.length_append, List.length_singleton]
              omega
            rw [a1, a2, eqw, show (r2 == 0) = false by simpa using c0, ifS_p, if_neg Bool.false_ne_true, eqw, show (r2 == 1) = false by simpa using c1, ifS_p, if_neg Bool.false_ne_true, eqw, show (r2 == 2) = false by simpa using c2, ifS_p, if_neg Bool.false_ne_true, op2_s, ltV_i, testO_s, decide_eq_true c3, ifS_p, if_pos rfl]
            rfl
        · refine em (tupU e) (thing_tups (by omega)) ?_
          rw [eqw, show (r2 == 0) = false by simpa using c0, ifS_p, if_neg Bool.false_ne_true, eqw, show (r2 == 1) = false by simpa using c1, ifS_p, if_neg Bool.false_ne_true, eqw, show (r2 == 2) = false by simpa using c2, ifS_p, if_neg Bool.false_ne_true, op2_s, ltV_i, testO_s, decide_eq_false c3, ifS_p, if_neg Bool.false_ne_true]
          rfl

end K53
set_option Elab.async false
set_option linter.all false
set_option maxRecDepth 100000
set_option maxHeartbeats 2000000
namespace K53
open PySem L2 Dn
/-! ### choices and lots -/
theorem mem_tuples : ∀ (rt : List Row) (acc : List (List Str)) (e : List Str), e ∈ tuplesT rt acc ↔ ∃ a ∈ acc, ∃ t, e = a ++ t ∧ Hall.pick (rt.map (·.2)) t
  | [], acc, e => by
    constructor
    · intro h; exact ⟨e, h, [], by simp, trivial⟩
    · rintro ⟨a, ha, t, rfl, ht⟩
      cases t with
      | nil => rw [List.append_nil]; exact ha
      | cons _ _ => exact ht.elim
  | r :: rt, acc, e => by
    show e ∈ tuplesT rt _ ↔ _
    rw [mem_tuples rt]
    constructor
    · rintro ⟨a, ha, t, rfl, ht⟩
      obtain ⟨b, hb, ha⟩ := List.mem_flatMap.mp ha
      obtain ⟨o, ho, rfl⟩ := List.mem_map.mp ha
      exact ⟨b, hb, o :: t, by simp, ho, ht⟩
    · rintro ⟨a, ha, t, rfl, ht⟩
      cases t with
      | nil => exact ht.elim
      | cons o t => exact ⟨a ++ [o], List.mem_flatMap.mpr ⟨a, ha, List.mem_map.mpr ⟨o, ht.1, rfl⟩⟩, t, by simp, ht.2⟩
theorem mem_tup0 {rt : List Row} {e : List Str} : e ∈ tuplesT rt [[]] ↔ Hall.pick (rt.map (·.2)) e := by
  rw [mem_tuples]
  constructor
  · rintro ⟨a, ha, t, rfl, ht⟩
    simp at ha
    subst ha
    exact ht
  · intro h
    exact ⟨[], by simp, e, rfl, h⟩
theorem fits_pick : ∀ {rt : List Row} {e : List Str}, Hall.pick (rt.map (·.2)) e → fits rt (txs e) = true
  | [], [], _ => rfl
  | r :: rt, x :: e, h => by
    show ((r.2.any fun s => isS s (.str x)) && fits rt (txs e)) = true
    rw [fits_pick h.2, Bool.and_true, List.any_eq_true]
    exact ⟨x, h.1, by simp [isS]⟩
  | [], _ :: _, h => h.elim
  | _ :: _, [], h => h.elim
theorem ch_tuples {rs : List Row} (h : Web rs) {e : List Str} (he : e ∈ tuplesT rs.tail [[]]) : chB rs (tupU e) = decide (∀ n ∈ innerT rs, n ∈ e) := by
  have hp := mem_tup0.mp he
  have hn := h.ne
  have hlen : (txs e).length + 1 = rs.length := by
    have := Hall.pick_length hp
    rw [List.length_map, List.length_tail] at this
    have h0 := List.length_pos_iff.mpr hn
    rw [txs_length]
    omega
  show (decide ((txs e).length + 1 = rs.length) && (fits rs.tail (txs e) && (innerT rs).all fun n => (txs e).any (isS n))) = _
  rw [decide_eq_true hlen, fits_pick hp, Bool.true_and, Bool.true_and]
  rw [Bool.eq_iff_iff, List.all_eq_true, decide_eq_true_eq]
  constructor
  · intro q n hn'
    have := q n hn'
    rw [any_isS, decide_eq_true_eq] at this
    exact this
  · intro q n hn'
    rw [any_isS, decide_eq_true_eq]
    exact q n hn'
theorem Web.first {rs : List Row} (h : Web rs) : ∃ w, rs = (w, []) :: rs.tail := by
  induction h with
  | @one w _ => exact ⟨w, rfl⟩
  | @snoc rs w ss h _ _ _ _ _ _ ih =>
    obtain ⟨v, e⟩ := ih
    refine ⟨v, ?_⟩
    rw [e]
    rfl
theorem made_count {rs : List Row} (h : Web rs) {P : Str → Bool} : (madeR rs ((innerT rs).filter P) none).length = ((rs.tail.map (·.2)).filter fun l => (innerT rs).any fun a => P a && decide (a ∈ l)).length := by
  obtain ⟨w, e⟩ := h.first
  have h1 : ∀ ss, madeR rs ss none = madeR rs.tail ss none := fun ss => by
    show List.filter _ rs = _
    conv => lhs; rw [e]
    rw [List.filter_cons]
    rfl
  rw [h1, List.filter_map, List.length_map]
  show (List.filter _ rs.tail).length = _
  congr 1
  refine List.filter_congr fun r _ => ?_
  rw [Bool.eq_iff_iff]
  show (r.2.any fun s => decide (s ∈ (innerT rs).filter P) && !decide ((none : Option (Str × Str)) = some (s, r.1))) = true ↔ ((innerT rs).any fun a => P a && decide (a ∈ r.2)) = true
  rw [List.any_eq_true, List.any_eq_true]
  constructor
  · rintro ⟨s, hs, q⟩
    rw [Bool.and_eq_true, decide_eq_true_eq, List.mem_filter] at q
    exact ⟨s, q.1.1, by rw [q.1.2, decide_eq_true hs]; rfl⟩
  · rintro ⟨s, hs, q⟩
    rw [Bool.and_eq_true, decide_eq_true_eq] at q
    exact ⟨s, q.2, by rw [decide_eq_true (List.mem_filter.mpr ⟨hs, q.1⟩)]; rfl⟩
theorem lot_filter {rs : List Row} {P : Str → Bool} : lotB rs (tupU ((innerT rs).filter P)) = true := by
  show ((txs ((innerT rs).filter P)).all strQ && decide (unS (txs ((innerT rs).filter P)) = (innerT rs).filter fun n => decide (n ∈ unS (txs ((innerT rs).filter P))))) = true
  rw [txs_strQ, Bool.true_and, unS_txs, decide_eq_true_eq]
  refine List.filter_congr fun n hn => ?_
  rw [Bool.eq_iff_iff, decide_eq_true_eq, List.mem_filter]
  exact ⟨fun q => ⟨hn, q⟩, fun q => q.2⟩
theorem lot_is {rs : List Row} {e : List Str} (h : lotB rs (tupU e) = true) : e = (innerT rs).filter fun n => decide (n ∈ e) := by
  have h : ((txs e).all strQ && decide (unS (txs e) = (innerT rs).filter fun n => decide (n ∈ unS (txs e)))) = true := h
  rw [txs_strQ, Bool.true_and, unS_txs, decide_eq_true_eq] at h
  exact h
theorem lack_filter {rs : List Row} (h : Web rs) {P : Str → Bool} : lackB rs (tupU ((innerT rs).filter P)) = decide (((rs.tail.map (·.2)).filter fun l => (innerT rs).any fun a => P a && decide (a ∈ l)).length < ((innerT rs).filter P).length) := by
  show (lotB rs (tupU ((innerT rs).filter P)) && decide ((madeR rs (unS (txs ((innerT rs).filter P))) none).length < (txs ((innerT rs).filter P)).length)) = _
  rw [lot_filter, Bool.true_and, unS_txs, txs_length, made_count h]
theorem inner_nodup {rs : List Row} (h : Web rs) : (innerT rs).Nodup := h.nodup.filter _
instance : Inhabited Str := ⟨""⟩
theorem hall_web {rs : List Row} (h : Web rs) : (∃ e ∈ tuplesT rs.tail [[]], chB rs (tupU e) = true) ↔ ¬ ∃ e ∈ lotsT (innerT rs) [[]], lackB rs (tupU e) = true := by
  have hc := Hall.pick_cover (as := rs.tail.map (·.2)) (fun l hl => by
    obtain ⟨r, hr, rfl⟩ := List.mem_map.mp hl
    exact h.tail_ne r hr) (inner_nodup h)
  have h1 : (∃ e ∈ tuplesT rs.tail [[]], chB rs (tupU e) = true) ↔ ∃ e, Hall.pick (rs.tail.map (·.2)) e ∧ ∀ a ∈ innerT rs, a ∈ e := by
    constructor
    · rintro ⟨e, he, q⟩
      rw [ch_tuples h he, decide_eq_true_eq] at q
      exact ⟨e, mem_tup0.mp he, q⟩
    · rintro ⟨e, he, q⟩
      have he := mem_tup0.mpr he
      exact ⟨e, he, by rw [ch_tuples h he, decide_eq_true_eq]; exact q⟩
  rw [h1, hc]
  constructor
  · rintro q ⟨e, _, hb⟩
    have hq : lotB rs (tupU e) = true := by
      have hb : (lotB rs (tupU e) && decide ((madeR rs (unS (txs e)) none).length < (txs e).length)) = true := hb
      rw [Bool.and_eq_true] at hb
      exact hb.1
    have he := lot_is hq
    rw [he, lack_filter h, decide_eq_true_eq] at hb
    have := q fun n => decide (n ∈ e)
    omega
  · intro q P
    apply Classical.byContradiction
    intro z
    refine q ⟨(innerT rs).filter P, ?_, ?_⟩
    · have := lotsT_mem (P := P) (innerT rs) [[]] [] (by simp)
      exact this
    · rw [lack_filter h, decide_eq_true_eq]
      omega
theorem mul_bl {x : U} {b : Bool} : op2 mulV (lstO (consO (some x) (some []))) (callO (c1 intV) (consO (some (U.bl b)) (some []))) = some (.lst (if b then [x] else [])) := by
  cases b with
  | true =>
    show (if (0 : Int) ≤ 1 ∧ (1 : Int) ≤ 1000 ∧ [x].length * (1 : Int).toNat ≤ lim then some (U.lst (List.replicate (1 : Int).toNat [x]).flatten) else none) = _
    rw [if_pos ⟨by decide, by decide, by show 1 ≤ 100000; decide⟩]
    rfl
  | false =>
    show (if (0 : Int) ≤ 0 ∧ (0 : Int) ≤ 1000 ∧ [x].length * (0 : Int).toNat ≤ lim then some (U.lst (List.replicate (0 : Int).toNat [x]).flatten) else none) = _
    rw [if_pos ⟨by decide, by decide, by show 0 ≤ 100000; decide⟩]
    rfl
theorem add_lsts {xs ys : List U} (h : xs.length + ys.length ≤ lim) : op2 addV (some (U.lst xs)) (some (U.lst ys)) = some (.lst (xs ++ ys)) := by
  show (if xs.length + ys.length ≤ lim then some (U.lst (xs ++ ys)) else none) = _
  rw [if_pos h]
theorem eq_nil {xs : List U} : op2 eqV2 (some (U.lst xs)) (lstO (some [])) = some (.bl xs.isEmpty) := by
  cases xs <;> rfl
theorem neq_nil {xs : List U} : op2 neV2 (some (U.lst xs)) (lstO (some [])) = some (.bl (!xs.isEmpty)) := by
  cases xs <;> rfl
theorem ne_bls {a b : Bool} : op2 neV2 (some (U.bl a)) (some (U.bl b)) = some (.bl (a != b)) := by
  cases a <;> cases b <;> rfl
theorem filter_empty {α : Type} {p : α → Bool} : ∀ {l : List α}, (l.filter p).isEmpty = !l.any p
  | [] => rfl
  | x :: l => by
    rw [List.filter_cons, List.any_cons]
    cases p x with
    | true => rfl
    | false => exact filter_empty

end K53
set_option Elab.async false
set_option linter.all false
set_option maxRecDepth 100000
set_option maxHeartbeats 2000000
namespace K53
open PySem L2 Dn
theorem accepts_lacks {rs : List Row} {x : U} (h : Web rs) (hl : rs.length ≤ 40) (hx : Thing x) : m_accepts (.tup [.str "lacks", .str (textT rs)]) x = some (.bl (lackB rs x)) := by
  unfold m_accepts
  have g0 : op2 getV (some (U.tup [.str "lacks", .str (textT rs)])) (some (U.int 0)) = some (.str "lacks") := rfl
  have g1 : op2 getV (some (U.tup [.str "lacks", .str (textT rs)])) (some (U.int 1)) = some (.str (textT rs)) := rfl
  have e1 : op2 (kgetV tab_SIZES) (some (.str "lacks")) (some (U.int 0)) = some (.int 2) := by
    have : tab_SIZES.lookup ("lacks" : Str) = some 2 := by decide +kernel
    show (match tab_SIZES.lookup ("lacks" : Str) with | some i => some (U.int i) | none => some (U.int 0)) = _
    rw [this]
  have e2 : op2 eqV2 (some (U.tup [.str "lacks", .str (textT rs)])) (tupO (some [])) = some (.bl false) := rfl
  have e3 : callO (a1 m_plain_of) (consO (some (U.str (textT rs))) (some [])) = some (plain rs) := plain_ok h hl
  have e4 : op2 eqV2 (some (U.str "lacks")) (some (U.str "has")) = some (.bl false) := by
    have : (("lacks" : Str) == "has") = false := by decide +kernel
    rw [op2_s, eqV2_ss, this]
  have e4b : op2 eqV2 (some (U.str "lacks")) (some (U.str "lacks")) = some (.bl true) := by
    have : (("lacks" : Str) == "lacks") = true := by decide +kernel
    rw [op2_s, eqV2_ss, this]
  have e5 : op2 isV (some (plain rs)) (some U.non) = some (.bl false) := rfl
  have e6 : callO (a2 m_shows_lack) (consO (some (plain rs)) (consO (some x) (some []))) = some (.bl (lackB rs x)) := lack_ok h hl hx
  rw [g0, g1, e1, e2, e3, Option.bind_some, e5, e4, e4b, e6]
  rfl
def claimU (rs : List Row) : U := .tup [.str "lacks", .str (textT rs)]
abbrev lackL (rs : List Row) (es : List (List Str)) : List (List Str) := es.filter fun e => lackB rs (tupU e)
theorem right_l2 {rs : List Row} {k : U → SM U} (h : Web rs) (hl : rs.length ≤ 12) {us : List U} : ∀ (es acc : List (List Str)), acc.length + es.length ≤ 5000 → (∀ e ∈ es, e.length ≤ 12) → m_law_right_l2 (.lst (rowsU rs)) (claimU rs) k (es.map tupU) (.lst (acc.map tupU)) us = k (.lst ((acc ++ lackL rs es).map tupU)) us
  | [], acc, _, _ => by
    simp [lackL]
    rfl
  | e :: es, acc, hn, he => by
    have hlim : lim = 100000 := rfl
    rw [List.length_cons] at hn
    have ht : Thing (tupU e) := thing_tups (by have := he e (List.mem_cons_self ..); omega)
    have e1 : callO (a2 m_law_lacks) (consO (some (U.lst (rowsU rs))) (consO (some (tupU e)) (some []))) = some (.bl (lackB rs (tupU e))) := law_lacks_ok h (by omega) ht
    have e2 : callO (a2 m_accepts) (consO (some (claimU rs)) (consO (some (tupU e)) (some []))) = some (.bl (lackB rs (tupU e))) := accepts_lacks h (by omega) ht
    have e3 : callO (fun xs => if xs.length = 2 then (a2 m_accepts) xs.reverse else none) (consO (some (tupU e)) (consO (some (claimU rs)) (some []))) = some (.bl (lackB rs (tupU e))) := accepts_lacks h (by omega) ht
    obtain ⟨s, es2⟩ := repr_two (b := lackB rs (tupU e))
    show bindS (pureS (callO (a2 m_law_lacks) (consO (some (U.lst (rowsU rs))) (consO (some (tupU e)) (some []))))) (fun x98 => (ifS (pureS (testO (op2 neV2 (callO (c1 reprV) (consO (lstO (consO (callO (a2 m_accepts) (consO (some (claimU rs)) (consO (some (tupU e)) (some [])))) (consO (callO (fun xs => if xs.length = 2 then (a2 m_accepts) xs.reverse else none) (consO (some (tupU e)) (consO (some (claimU rs)) (some [])))) (some [])))) (some []))) (callO (c1 reprV) (consO (lstO (consO (some x98) (consO (some x98) (some [])))) (some [])))))) (pureS (some (U.bl false))) (bindS (pureS (op2 addV (some (U.lst (acc.map tupU))) (op2 mulV (lstO (consO (some (tupU e)) (some []))) (callO (c1 intV) (consO (some x98) (some [])))))) fun x119 => (m_law_right_l2 (.lst (rowsU rs)) (claimU rs) k (es.map tupU) (x119))))) us = _
    rw [e1, e2, e3, bindS_pure, mul_bl]
    have ea : op2 addV (some (U.lst (acc.map tupU))) (some (U.lst (if lackB rs (tupU e) = true then [tupU e] else []))) = some (.lst ((acc ++ lackL rs [e]).map tupU)) := by
      have hle : (if lackB rs (tupU e) = true then [tupU e] else []) = (lackL rs [e]).map tupU := by
        show _ = List.map tupU (List.filter _ [e])
        rw [List.filter_cons]
        cases lackB rs (tupU e) <;> rfl
      have hln : (lackL rs [e]).length ≤ 1 := List.length_filter_le _ [e]
      rw [hle, add_lsts (by simp only [List.length_map]; omega), List.map_append]
    rw [ea]
    have hln : (lackL rs [e]).length ≤ 1 := List.length_filter_le _ [e]
    have ih := right_l2 (k := k) (us := us) h hl es (acc ++ lackL rs [e]) (by rw [List.length_append]; omega) fun x hx => he x (List.mem_cons_of_mem _ hx)
    have hap : acc ++ lackL rs (e :: es) = (acc ++ lackL rs [e]) ++ lackL rs es := by
      rw [List.append_assoc]
      congr 1
      show List.filter _ ([e] ++ es) = _
      rw [List.filter_append]
    rw [hap, ← ih]
    simp only [consO_s, lstO2]
    rw [show (some [U.lst [U.bl (lackB rs (tupU e)), U.bl (lackB rs (tupU e))]] : Option (List U)) = consO (some (U.lst [.bl (lackB rs (tupU e)), .bl (lackB rs (tupU e))])) (some []) from rfl, es2, ne_same, ifS_p, if_neg Bool.false_ne_true, bindS_pure]
theorem right_l3 {rs : List Row} {k : SM U} {ls : List (List Str)} (h : Web rs) (hl : rs.length ≤ 12) (hls : ls.length ≤ 5000) (hll : ∀ e ∈ ls, e.length ≤ 12) : ∀ (l : List U) (u : U), Urn u → ∃ u', m_law_right_l3 (.lst (rowsU rs)) (claimU rs) (.lst (ls.map tupU)) k l [u] = k [u'] ∧ Urn u'
  | [], u, hu => ⟨u, rfl, hu⟩
  | x :: l, u, hu => by
    obtain ⟨hne, hc, hlen⟩ := lots_facts (rs := rs) hl
    have hlim : lim = 100000 := rfl
    have et : op2 addV (callO (a1 m_law_lots) (consO (some (U.lst (rowsU rs))) (some []))) (some (U.lst (ls.map tupU))) = some (.lst ((lotsT (innerT rs) [[]] ++ ls).map tupU)) := by
      have : callO (a1 m_law_lots) (consO (some (U.lst (rowsU rs))) (some [])) = some (.lst ((lotsT (innerT rs) [[]]).map tupU)) := lots_ok h hl
      rw [this, add_lsts (by simp only [List.length_map]; omega), List.map_append]
    obtain ⟨z, u1, e1, hu1, hz⟩ := of_at (t := []) (xs := (lotsT (innerT rs) [[]] ++ ls).map tupU) hu (by simp [hne]) (by rw [List.length_map, List.length_append]; omega)
    obtain ⟨e, he, rfl⟩ := List.mem_map.mp hz
    have hel : e.length ≤ 12 := by
      rcases List.mem_append.mp he with he | he
      · exact hlen e he
      · exact hll e he
    obtain ⟨y, u2, e2, hu2, hy⟩ := bent_lot_ok hu1 h hel
    obtain ⟨u3, e3, hu3⟩ := right_l3 (k := k) h hl hls hll l u2 hu2
    refine ⟨u3, ?_, hu3⟩
    have q1 : bindS (pureS (consO (op2 addV (callO (a1 m_law_lots) (consO (some (U.lst (rowsU rs))) (some []))) (some (U.lst (ls.map tupU)))) (some []))) (fun xs => callM 0 (b1 m_law_of) xs) [u] = some (tupU e, [u1]) := by
      rw [et]; exact e1
    have q2 : callM 0 (b2 m_law_bent_lot) [.lst (rowsU rs), tupU e] [u1] = some (y, [u2]) := callM_s (us := [u1]) (j := 0) rfl hu1.own e2
    have q3 : bindS (consS (pureS (some (U.lst (rowsU rs)))) (consS (bindS (pureS (consO (op2 addV (callO (a1 m_law_lots) (consO (some (U.lst (rowsU rs))) (some []))) (some (U.lst (ls.map tupU)))) (some []))) fun xs => callM 0 (b1 m_law_of) xs) (pureS (some [])))) (fun xs => callM 0 (b2 m_law_bent_lot) xs) [u] = some (y, [u2]) := by
      rw [bindS_s (consS_s rfl (consS_s q1 rfl))]
      exact q2
    have c1' : callO (a2 m_law_lacks) (consO (some (U.lst (rowsU rs))) (consO (some y) (some []))) = some (.bl (lackB rs y)) := law_lacks_ok h (by omega) hy
    have c2' : callO (a2 m_accepts) (consO (some (claimU rs)) (consO (some y) (some []))) = some (.bl (lackB rs y)) := accepts_lacks h (by omega) hy
    rw [← e3]
    show bindS (bindS (consS (pureS (some (U.lst (rowsU rs)))) (consS (bindS (pureS (consO (op2 addV (callO (a1 m_law_lots) (consO (some (U.lst (rowsU rs))) (some []))) (some (U.lst (ls.map tupU)))) (some []))) fun xs => callM 0 (b1 m_law_of) xs) (pureS (some [])))) fun xs => callM 0 (b2 m_law_bent_lot) xs) (fun x186 => (ifS (pureS (testO (op2 neV2 (callO (c1 reprV) (consO (callO (a2 m_accepts) (consO (some (claimU rs)) (consO (some x186) (some [])))) (some []))) (callO (c1 reprV) (consO (callO (a2 m_law_lacks) (consO (some (U.lst (rowsU rs))) (consO (some x186) (some [])))) (some [])))))) (pureS (some (U.bl false))) (m_law_right_l3 (.lst (rowsU rs)) (claimU rs) (.lst (ls.map tupU)) k l))) [u] = _
    rw [bindS_s q3, c1', c2', repr_bl, ne_same, ifS_p, if_neg Bool.false_ne_true]
theorem right_test {rs : List Row} (h : Web rs) (hl : rs.length ≤ 12) : testO (op2 neV2 (op2 eqV2 (some (U.lst ((lackL rs (lotsT (innerT rs) [[]])).map tupU))) (lstO (some []))) (op2 neV2 (callO (a1 m_law_choices) (consO (some (U.lst (rowsU rs))) (some []))) (lstO (some [])))) = some false := by
  have ec : callO (a1 m_law_choices) (consO (some (U.lst (rowsU rs))) (some [])) = some (.lst (((tuplesT rs.tail [[]]).filter fun e => chB rs (tupU e)).map tupU)) := choices_ok h hl
  rw [ec, eq_nil, neq_nil, ne_bls, testO_s, List.isEmpty_map, List.isEmpty_map, filter_empty, filter_empty]
  have hw := hall_web h
  have e1 : ((tuplesT rs.tail [[]]).any fun e => chB rs (tupU e)) = !((lotsT (innerT rs) [[]]).any fun e => lackB rs (tupU e)) := by
    rw [Bool.eq_iff_iff, List.any_eq_true, Bool.not_eq_true', ← Bool.not_eq_true, List.any_eq_true]
    exact hw
  rw [e1]
  cases (lotsT (innerT rs) [[]]).any fun e => lackB rs (tupU e) <;> rfl
theorem right_l1 : ∀ (l : List U) (u : U) (k : SM U), Urn u → ∃ u', m_law_right_l1 k l [u] = k [u'] ∧ Urn u'
  | [], u, k, hu => ⟨u, rfl, hu⟩
  | x :: l, u, k, hu => by
    obtain ⟨r, u1, e1, hu1, r0, r1⟩ := pull_at (t := []) (n := 7) hu (by decide) (by decide)
    obtain ⟨m, hm⟩ : ∃ m : Nat, (2 : Int) + r = (m : Int) := ⟨(2 + r).toNat, by omega⟩
    obtain ⟨rs, u2, e2, hu2, hw, hl⟩ := rows_ok (n := m) (d := 6) hu1 (by omega) (by omega)
    have hl12 : rs.length ≤ 12 := by omega
    have q1 : opS addV (pureS (some (U.int 2))) (bindS (pureS (consO (some (U.int 7)) (some []))) fun xs => callM 0 (b1 m_law_pull) xs) [u] = some (.int (m : Int), [u1]) := opS_s rfl e1 (by rw [addV_i, hm])
    have q2 : bindS (consS (opS addV (pureS (some (U.int 2))) (bindS (pureS (consO (some (U.int 7)) (some []))) fun xs => callM 0 (b1 m_law_pull) xs)) (consS (pureS (some (U.int 6))) (pureS (some [])))) (fun xs => callM 0 (b2 m_law_rows) xs) [u] = some (.lst (rowsU rs), [u2]) := by
      rw [bindS_s (consS_s q1 (consS_s rfl rfl))]
      exact callM_s (us := [u1]) (j := 0) rfl hu1.own e2
    have et : callO (a1 m_law_text) (consO (some (U.lst (rowsU rs))) (some [])) = some (.str (textT rs)) := text_ok hw (by omega)
    have elo : callO (a1 m_law_lots) (consO (some (U.lst (rowsU rs))) (some [])) = some (.lst ((lotsT (innerT rs) [[]]).map tupU)) := lots_ok hw hl12
    have er : rngO rng1 (consO (some (U.int 12)) (some [])) = some (rangeU 0 12) := rfl
    obtain ⟨_, hc, hlen⟩ := lots_facts (rs := rs) hl12
    have hfl : (lackL rs (lotsT (innerT rs) [[]])).length ≤ 5000 := by
      have : (lackL rs (lotsT (innerT rs) [[]])).length ≤ (lotsT (innerT rs) [[]]).length := List.length_filter_le _ _
      omega
    obtain ⟨u3, e3, hu3⟩ := right_l3 (k := m_law_right_l1 k l) (ls := lackL rs (lotsT (innerT rs) [[]])) hw hl12 hfl (fun e he => hlen e (List.mem_filter.mp he).1) (rangeU 0 12) u2 hu2
    obtain ⟨u4, e4, hu4⟩ := right_l1 l u3 k hu3
    refine ⟨u4, ?_, hu4⟩
    rw [← e4, ← e3]
    have e5 := right_l2 (k := fun x131 => (ifS (pureS (testO (op2 neV2 (op2 eqV2 (some x131) (lstO (some []))) (op2 neV2 (callO (a1 m_law_choices) (consO (some (U.lst (rowsU rs))) (some []))) (lstO (some [])))))) (pureS (some (U.bl false))) (withK (m_law_right_l1 k l) fun kL152 => (bindS (pureS (rngO rng1 (consO (some (U.int 12)) (some [])))) fun xs155 => m_law_right_l3 (.lst (rowsU rs)) (claimU rs) x131 kL152 xs155)))) (us := [u2]) hw hl12 (lotsT (innerT rs) [[]]) [] (by simp; omega) hlen
    rw [List.nil_append, right_test hw hl12, ifS_p, if_neg Bool.false_ne_true] at e5
    refine Eq.trans ?_ (e5.trans ?_)
    · show bindS (bindS (consS (opS addV (pureS (some (U.int 2))) (bindS (pureS (consO (some (U.int 7)) (some []))) fun xs => callM 0 (b1 m_law_pull) xs)) (consS (pureS (some (U.int 6))) (pureS (some [])))) fun xs => callM 0 (b2 m_law_rows) xs) (fun x38 => (bindS (pureS (consO (tupO (consO (some (U.str "lacks")) (consO (callO (a1 m_law_text) (consO (some x38) (some []))) (some [])))) (consO (lstO (some [])) (some [])))) fun xs => parS xs fun x47 x48 => (withK (fun x131 => (ifS (pureS (testO (op2 neV2 (op2 eqV2 (some x131) (lstO (some []))) (op2 neV2 (callO (a1 m_law_choices) (consO (some x38) (some []))) (lstO (some [])))))) (pureS (some (U.bl false))) (withK (m_law_right_l1 k l) fun kL152 => (bindS (pureS (rngO rng1 (consO (some (U.int 12)) (some [])))) fun xs155 => m_law_right_l3 x38 x47 x131 kL152 xs155)))) fun kL59 => (bindS (pureS (iterO U.iter (callO (a1 m_law_lots) (consO (some x38) (some []))))) fun xs62 => m_law_right_l2 x38 x47 kL59 xs62 (x48))))) [u] = _
      rw [bindS_s q2, et, elo]
      rfl
    · rw [er]
      rfl
theorem right_ok {u : U} (hu : Urn u) : ∃ u', b0 m_law_right u [] = some (.bl true, u') := by
  obtain ⟨u', e, hu'⟩ := right_l1 (rangeU 0 5) u (pureS (some (U.bl true))) hu
  refine ⟨u', ?_⟩
  show finS (m_law_right [u]) = _
  have er : m_law_right [u] = m_law_right_l1 (pureS (some (U.bl true))) (rangeU 0 5) [u] := rfl
  rw [er, e]
  simp [finS, hu'.own]

theorem maths (ns : List Int) (hl : ns.length ≤ 63) : m_law (.frl (ns.map U.int)) = some (.bl true) := by
  have el : callO lenV (consO (some (U.frl (ns.map U.int))) (some [])) = some (.int ns.length) := by simp [lenV]
  obtain ⟨m, em, hm⟩ : ∃ m : Nat, rngO rng1 (consO (callO maxA (consO (some (U.int 2)) (consO (callO minU (consO (callO lenV (consO (some (U.frl (ns.map U.int))) (some []))) (consO (some (U.int 5)) (some [])))) (some [])))) (some [])) = some (rangeU 0 m) ∧ m ≤ 1000 := by
    rw [el]
    have e1 : callO minU (consO (some (U.int ns.length)) (consO (some (U.int 5)) (some []))) = some (.int (if (5 : Int) < ns.length then 5 else ns.length)) := rfl
    rw [e1]
    generalize hq : (if (5 : Int) < ns.length then (5 : Int) else ns.length) = q
    have hq5 : q ≤ 5 ∧ 0 ≤ q := by subst hq; split <;> omega
    have e2 : callO maxA (consO (some (U.int 2)) (consO (some (U.int q)) (some []))) = some (.int (if q > 2 then q else 2)) := rfl
    rw [e2]
    generalize hz : (if q > 2 then q else 2) = z
    have hz5 : z ≤ 5 ∧ 0 ≤ z := by subst hz; split <;> omega
    refine ⟨z.toNat, ?_, by omega⟩
    show (if z ≤ 100000 ∧ -100000 ≤ z then some (rangeU 0 z.toNat) else none) = _
    rw [if_pos (by omega)]
  have hlim : lim = 100000 := rfl
  have hrl : (rangeU 0 m).length = m := by simp [rangeU]
  have hc : lcSL (fun u4 => (pureS (some true))) (fun u4 => (callF (b0 m_law_right) (callS (a2 m_law_urn) (pureS (consO (some (U.frl (ns.map U.int))) (consO (some u4) (some []))))) (pureS (some [])))) (rangeU 0 m) [] = some ((rangeU 0 m).map fun _ => U.bl true, []) := by
    refine lcSL_const (fun x us => rfl) (rangeU 0 m) [] fun x hx => ?_
    obtain ⟨i, hi, rfl⟩ := List.mem_map.mp hx
    rw [Int.zero_add]
    obtain ⟨u, eu, hu⟩ := urn_ok (t := i) hl
    obtain ⟨u', er⟩ := right_ok hu
    have e1 : callS (a2 m_law_urn) (pureS (consO (some (U.frl (ns.map U.int))) (consO (some (U.int i)) (some [])))) [] = some (u, []) := by
      show (m_law_urn (.frl (ns.map U.int)) (.int i)).map (fun x => (x, ([] : List U))) = _
      rw [eu]; rfl
    unfold callF
    rw [bindS_s e1, bindS_pure, er]
    rfl
  have e2 : m_lawS (.frl (ns.map U.int)) [] = some (.bl true, []) := by
    unfold m_lawS
    rw [em]
    have e3 : lcS (fun u4 => (pureS (some true))) (fun u4 => (callF (b0 m_law_right) (callS (a2 m_law_urn) (pureS (consO (some (U.frl (ns.map U.int))) (consO (some u4) (some []))))) (pureS (some [])))) (pureS (some (rangeU 0 m))) [] = some (.frl ((rangeU 0 m).map fun _ => U.bl true), []) := by
      unfold lcS
      rw [bindS_pure, if_pos (by omega), bindS_s hc]
      rfl
    have e4 : keepN (lcS (fun u4 => (pureS (some true))) (fun u4 => (callF (b0 m_law_right) (callS (a2 m_law_urn) (pureS (consO (some (U.frl (ns.map U.int))) (consO (some u4) (some []))))) (pureS (some [])))) (pureS (some (rangeU 0 m)))) [] = some (.lst ((rangeU 0 m).map fun _ => U.bl true), []) := by
      unfold keepN
      rw [bindS_s e3]
      rfl
    rw [callS_s (consS_s e4 rfl), all_map (p := fun _ => true)]
    simp
  show (m_lawS (.frl (ns.map U.int)) []).map Prod.fst = _
  rw [e2]
  rfl

end K53
set_option Elab.async false
set_option linter.all false
set_option maxRecDepth 100000
set_option maxHeartbeats 4000000
namespace K53
open PySem L2 Dn
/-! the end -/
theorem all_mk {l : PySem.W.OpenLaw} {w : World} {K : PySem.W.Frag} {h : Heap} {mg : Str → Option Value} {fa : Addr} {C0 : Addr} (X : K.In h) (G : h.Ns mainGlobals mg) (hfa : mg "law" = some (.ref fa))
    {f11 : Addr} {od11 an11 : Option Addr} {sl11 : Array (Option Value)} {oc11 kV11 dc11 pm11 cd11 ct11 : Value}
    {f12 : Addr} {od12 an12 : Option Addr} {sl12 : Array (Option Value)} {oc12 kV12 dc12 pm12 cd12 ct12 : Value}
    {f1000 : Addr} {od1000 an1000 : Option Addr} {sl1000 : Array (Option Value)} {oc1000 kV1000 dc1000 pm1000 cd1000 ct1000 : Value}
    {f1001 : Addr} {od1001 an1001 : Option Addr} {sl1001 : Array (Option Value)} {oc1001 kV1001 dc1001 pm1001 cd1001 ct1001 : Value}
    {f1002 : Addr} {od1002 an1002 : Option Addr} {sl1002 : Array (Option Value)} {oc1002 kV1002 dc1002 pm1002 cd1002 ct1002 : Value}
    {f1003 : Addr} {od1003 an1003 : Option Addr} {sl1003 : Array (Option Value)} {oc1003 kV1003 dc1003 pm1003 cd1003 ct1003 : Value}
    {f14 : Addr} {od14 an14 : Option Addr} {sl14 : Array (Option Value)} {oc14 kV14 dc14 pm14 cd14 ct14 : Value}
    {f22 : Addr} {od22 an22 : Option Addr} {sl22 : Array (Option Value)} {oc22 kV22 dc22 pm22 cd22 ct22 : Value}
    {f23 : Addr} {od23 an23 : Option Addr} {sl23 : Array (Option Value)} {oc23 kV23 dc23 pm23 cd23 ct23 : Value}
    {f24 : Addr} {od24 an24 : Option Addr} {sl24 : Array (Option Value)} {oc24 kV24 dc24 pm24 cd24 ct24 : Value}
    {f32 : Addr} {od32 an32 : Option Addr} {sl32 : Array (Option Value)} {oc32 kV32 dc32 pm32 cd32 ct32 : Value}
    {f34 : Addr} {od34 an34 : Option Addr} {sl34 : Array (Option Value)} {oc34 kV34 dc34 pm34 cd34 ct34 : Value}
    {f35 : Addr} {od35 an35 : Option Addr} {sl35 : Array (Option Value)} {oc35 kV35 dc35 pm35 cd35 ct35 : Value}
    {f36 : Addr} {od36 an36 : Option Addr} {sl36 : Array (Option Value)} {oc36 kV36 dc36 pm36 cd36 ct36 : Value}
    {f37 : Addr} {od37 an37 : Option Addr} {sl37 : Array (Option Value)} {oc37 kV37 dc37 pm37 cd37 ct37 : Value}
    {f38 : Addr} {od38 an38 : Option Addr} {sl38 : Array (Option Value)} {oc38 kV38 dc38 pm38 cd38 ct38 : Value}
    {f39 : Addr} {od39 an39 : Option Addr} {sl39 : Array (Option Value)} {oc39 kV39 dc39 pm39 cd39 ct39 : Value}
    {f40 : Addr} {od40 an40 : Option Addr} {sl40 : Array (Option Value)} {oc40 kV40 dc40 pm40 cd40 ct40 : Value}
    {f41 : Addr} {od41 an41 : Option Addr} {sl41 : Array (Option Value)} {oc41 kV41 dc41 pm41 cd41 ct41 : Value}
    {f42 : Addr} {od42 an42 : Option Addr} {sl42 : Array (Option Value)} {oc42 kV42 dc42 pm42 cd42 ct42 : Value}
    {f43 : Addr} {od43 an43 : Option Addr} {sl43 : Array (Option Value)} {oc43 kV43 dc43 pm43 cd43 ct43 : Value}
    {f44 : Addr} {od44 an44 : Option Addr} {sl44 : Array (Option Value)} {oc44 kV44 dc44 pm44 cd44 ct44 : Value}
    {f45 : Addr} {od45 an45 : Option Addr} {sl45 : Array (Option Value)} {oc45 kV45 dc45 pm45 cd45 ct45 : Value}
    {f46 : Addr} {od46 an46 : Option Addr} {sl46 : Array (Option Value)} {oc46 kV46 dc46 pm46 cd46 ct46 : Value}
    {f47 : Addr} {od47 an47 : Option Addr} {sl47 : Array (Option Value)} {oc47 kV47 dc47 pm47 cd47 ct47 : Value}
    {f48 : Addr} {od48 an48 : Option Addr} {sl48 : Array (Option Value)} {oc48 kV48 dc48 pm48 cd48 ct48 : Value}
    {f49 : Addr} {od49 an49 : Option Addr} {sl49 : Array (Option Value)} {oc49 kV49 dc49 pm49 cd49 ct49 : Value}
    {f50 : Addr} {od50 an50 : Option Addr} {sl50 : Array (Option Value)} {oc50 kV50 dc50 pm50 cd50 ct50 : Value}
    {f51 : Addr} {od51 an51 : Option Addr} {sl51 : Array (Option Value)} {oc51 kV51 dc51 pm51 cd51 ct51 : Value}
    {tk_MOST_SIGNS : Tok}
    {tk_SIGNS : Tok}
    {tk_MOST_COPIES : Tok}
    {f2016 : Addr} {es2016 : Array DictEntry} {en2016 : Nat}
    (aC0 : PySem.W.nsIn K mainGlobals "Plain" = some (some (.ref C0)))
    (pg0 : PySem.W.plainGet K C0 Str.empty = true)
    (hd0 : PySem.W.hasDictIn K C0 = true)
    (po0 : PySem.W.plainOver K C0 = true)
    (sa0 : PySem.W.findIn K (.ref C0) "__setattr__" = some (some (.builtin "object.__setattr__")))
    (mk0 : PySem.W.makesIn K C0 = true)
    (kc0 : PySem.W.keepIn K (.ref C0) = true)
    (a11 : PySem.W.nsIn K mainGlobals "is_word" = some (some (.ref f11)))
    (l11 : K.lookup f11 = some ⟨oc11, od11, .func (PySem.W.fnOf "is_word" "is_word" (defArgs s_is_word) (defBody s_is_word) (defScope s_is_word) .none kV11 dc11 pm11 an11 cd11 ct11), sl11⟩)
    (c11 : PySem.W.codeIn K cd11 "is_word" = true)
    (k11 : PySem.W.keepIn K (.ref f11) = true)
    (a12 : PySem.W.nsIn K mainGlobals "are_words" = some (some (.ref f12)))
    (l12 : K.lookup f12 = some ⟨oc12, od12, .func (PySem.W.fnOf "are_words" "are_words" (defArgs s_are_words) (defBody s_are_words) (defScope s_are_words) .none kV12 dc12 pm12 an12 cd12 ct12), sl12⟩)
    (c12 : PySem.W.codeIn K cd12 "are_words" = true)
    (k12 : PySem.W.keepIn K (.ref f12) = true)
    (a1000 : PySem.W.findIn K (.ref C0) "__init__" = some (some (.ref f1000)))
    (i1000 : PySem.W.isFn K (.ref f1000) = true)
    (l1000 : K.lookup f1000 = some ⟨oc1000, od1000, .func (PySem.W.fnOf "__init__" "Plain.__init__" (defArgs s_Plain___init__) (defBody s_Plain___init__) (defScope s_Plain___init__) .none kV1000 dc1000 pm1000 an1000 cd1000 ct1000), sl1000⟩)
    (c1000 : PySem.W.codeIn K cd1000 "Plain.__init__" = true)
    (k1000 : PySem.W.keepIn K (.ref f1000) = true)
    (a1001 : PySem.W.findIn K (.ref C0) "put" = some (some (.ref f1001)))
    (i1001 : PySem.W.isFn K (.ref f1001) = true)
    (l1001 : K.lookup f1001 = some ⟨oc1001, od1001, .func (PySem.W.fnOf "put" "Plain.put" (defArgs s_Plain_put) (defBody s_Plain_put) (defScope s_Plain_put) .none kV1001 dc1001 pm1001 an1001 cd1001 ct1001), sl1001⟩)
    (c1001 : PySem.W.codeIn K cd1001 "Plain.put" = true)
    (k1001 : PySem.W.keepIn K (.ref f1001) = true)
    (a1002 : PySem.W.findIn K (.ref C0) "links" = some (some (.ref f1002)))
    (i1002 : PySem.W.isFn K (.ref f1002) = true)
    (l1002 : K.lookup f1002 = some ⟨oc1002, od1002, .func (PySem.W.fnOf "links" "Plain.links" (defArgs s_Plain_links) (defBody s_Plain_links) (defScope s_Plain_links) .none kV1002 dc1002 pm1002 an1002 cd1002 ct1002), sl1002⟩)
    (c1002 : PySem.W.codeIn K cd1002 "Plain.links" = true)
    (k1002 : PySem.W.keepIn K (.ref f1002) = true)
    (a1003 : PySem.W.findIn K (.ref C0) "inner" = some (some (.ref f1003)))
    (i1003 : PySem.W.isFn K (.ref f1003) = true)
    (l1003 : K.lookup f1003 = some ⟨oc1003, od1003, .func (PySem.W.fnOf "inner" "Plain.inner" (defArgs s_Plain_inner) (defBody s_Plain_inner) (defScope s_Plain_inner) .none kV1003 dc1003 pm1003 an1003 cd1003 ct1003), sl1003⟩)
    (c1003 : PySem.W.codeIn K cd1003 "Plain.inner" = true)
    (k1003 : PySem.W.keepIn K (.ref f1003) = true)
    (a14 : PySem.W.nsIn K mainGlobals "plain_of" = some (some (.ref f14)))
    (l14 : K.lookup f14 = some ⟨oc14, od14, .func (PySem.W.fnOf "plain_of" "plain_of" (defArgs s_plain_of) (defBody s_plain_of) (defScope s_plain_of) .none kV14 dc14 pm14 an14 cd14 ct14), sl14⟩)
    (c14 : PySem.W.codeIn K cd14 "plain_of" = true)
    (k14 : PySem.W.keepIn K (.ref f14) = true)
    (a22 : PySem.W.nsIn K mainGlobals "is_lot" = some (some (.ref f22)))
    (l22 : K.lookup f22 = some ⟨oc22, od22, .func (PySem.W.fnOf "is_lot" "is_lot" (defArgs s_is_lot) (defBody s_is_lot) (defScope s_is_lot) .none kV22 dc22 pm22 an22 cd22 ct22), sl22⟩)
    (c22 : PySem.W.codeIn K cd22 "is_lot" = true)
    (k22 : PySem.W.keepIn K (.ref f22) = true)
    (a23 : PySem.W.nsIn K mainGlobals "made_of" = some (some (.ref f23)))
    (l23 : K.lookup f23 = some ⟨oc23, od23, .func (PySem.W.fnOf "made_of" "made_of" (defArgs s_made_of) (defBody s_made_of) (defScope s_made_of) .none kV23 dc23 pm23 an23 cd23 ct23), sl23⟩)
    (c23 : PySem.W.codeIn K cd23 "made_of" = true)
    (k23 : PySem.W.keepIn K (.ref f23) = true)
    (a24 : PySem.W.nsIn K mainGlobals "shows_lack" = some (some (.ref f24)))
    (l24 : K.lookup f24 = some ⟨oc24, od24, .func (PySem.W.fnOf "shows_lack" "shows_lack" (defArgs s_shows_lack) (defBody s_shows_lack) (defScope s_shows_lack) .none kV24 dc24 pm24 an24 cd24 ct24), sl24⟩)
    (c24 : PySem.W.codeIn K cd24 "shows_lack" = true)
    (k24 : PySem.W.keepIn K (.ref f24) = true)
    (a32 : PySem.W.nsIn K mainGlobals "accepts" = some (some (.ref f32)))
    (l32 : K.lookup f32 = some ⟨oc32, od32, .func (PySem.W.fnOf "accepts" "accepts" (defArgs s_accepts) (defBody s_accepts) (defScope s_accepts) .none kV32 dc32 pm32 an32 cd32 ct32), sl32⟩)
    (c32 : PySem.W.codeIn K cd32 "accepts" = true)
    (k32 : PySem.W.keepIn K (.ref f32) = true)
    (a34 : PySem.W.nsIn K mainGlobals "_law_urn" = some (some (.ref f34)))
    (l34 : K.lookup f34 = some ⟨oc34, od34, .func (PySem.W.fnOf "_law_urn" "_law_urn" (defArgs s_law_urn) (defBody s_law_urn) (defScope s_law_urn) .none kV34 dc34 pm34 an34 cd34 ct34), sl34⟩)
    (c34 : PySem.W.codeIn K cd34 "_law_urn" = true)
    (k34 : PySem.W.keepIn K (.ref f34) = true)
    (a35 : PySem.W.nsIn K mainGlobals "_law_pull" = some (some (.ref f35)))
    (l35 : K.lookup f35 = some ⟨oc35, od35, .func (PySem.W.fnOf "_law_pull" "_law_pull" (defArgs s_law_pull) (defBody s_law_pull) (defScope s_law_pull) .none kV35 dc35 pm35 an35 cd35 ct35), sl35⟩)
    (c35 : PySem.W.codeIn K cd35 "_law_pull" = true)
    (k35 : PySem.W.keepIn K (.ref f35) = true)
    (a36 : PySem.W.nsIn K mainGlobals "_law_of" = some (some (.ref f36)))
    (l36 : K.lookup f36 = some ⟨oc36, od36, .func (PySem.W.fnOf "_law_of" "_law_of" (defArgs s_law_of) (defBody s_law_of) (defScope s_law_of) .none kV36 dc36 pm36 an36 cd36 ct36), sl36⟩)
    (c36 : PySem.W.codeIn K cd36 "_law_of" = true)
    (k36 : PySem.W.keepIn K (.ref f36) = true)
    (a37 : PySem.W.nsIn K mainGlobals "_law_words" = some (some (.ref f37)))
    (l37 : K.lookup f37 = some ⟨oc37, od37, .func (PySem.W.fnOf "_law_words" "_law_words" (defArgs s_law_words) (defBody s_law_words) (defScope s_law_words) .none kV37 dc37 pm37 an37 cd37 ct37), sl37⟩)
    (c37 : PySem.W.codeIn K cd37 "_law_words" = true)
    (k37 : PySem.W.keepIn K (.ref f37) = true)
    (a38 : PySem.W.nsIn K mainGlobals "_law_rows" = some (some (.ref f38)))
    (l38 : K.lookup f38 = some ⟨oc38, od38, .func (PySem.W.fnOf "_law_rows" "_law_rows" (defArgs s_law_rows) (defBody s_law_rows) (defScope s_law_rows) .none kV38 dc38 pm38 an38 cd38 ct38), sl38⟩)
    (c38 : PySem.W.codeIn K cd38 "_law_rows" = true)
    (k38 : PySem.W.keepIn K (.ref f38) = true)
    (a39 : PySem.W.nsIn K mainGlobals "_law_text" = some (some (.ref f39)))
    (l39 : K.lookup f39 = some ⟨oc39, od39, .func (PySem.W.fnOf "_law_text" "_law_text" (defArgs s_law_text) (defBody s_law_text) (defScope s_law_text) .none kV39 dc39 pm39 an39 cd39 ct39), sl39⟩)
    (c39 : PySem.W.codeIn K cd39 "_law_text" = true)
    (k39 : PySem.W.keepIn K (.ref f39) = true)
    (a40 : PySem.W.nsIn K mainGlobals "_law_lines" = some (some (.ref f40)))
    (l40 : K.lookup f40 = some ⟨oc40, od40, .func (PySem.W.fnOf "_law_lines" "_law_lines" (defArgs s_law_lines) (defBody s_law_lines) (defScope s_law_lines) .none kV40 dc40 pm40 an40 cd40 ct40), sl40⟩)
    (c40 : PySem.W.codeIn K cd40 "_law_lines" = true)
    (k40 : PySem.W.keepIn K (.ref f40) = true)
    (a41 : PySem.W.nsIn K mainGlobals "_law_inner" = some (some (.ref f41)))
    (l41 : K.lookup f41 = some ⟨oc41, od41, .func (PySem.W.fnOf "_law_inner" "_law_inner" (defArgs s_law_inner) (defBody s_law_inner) (defScope s_law_inner) .none kV41 dc41 pm41 an41 cd41 ct41), sl41⟩)
    (c41 : PySem.W.codeIn K cd41 "_law_inner" = true)
    (k41 : PySem.W.keepIn K (.ref f41) = true)
    (a42 : PySem.W.nsIn K mainGlobals "_law_tuples" = some (some (.ref f42)))
    (l42 : K.lookup f42 = some ⟨oc42, od42, .func (PySem.W.fnOf "_law_tuples" "_law_tuples" (defArgs s_law_tuples) (defBody s_law_tuples) (defScope s_law_tuples) .none kV42 dc42 pm42 an42 cd42 ct42), sl42⟩)
    (c42 : PySem.W.codeIn K cd42 "_law_tuples" = true)
    (k42 : PySem.W.keepIn K (.ref f42) = true)
    (a43 : PySem.W.nsIn K mainGlobals "_law_is_choice" = some (some (.ref f43)))
    (l43 : K.lookup f43 = some ⟨oc43, od43, .func (PySem.W.fnOf "_law_is_choice" "_law_is_choice" (defArgs s_law_is_choice) (defBody s_law_is_choice) (defScope s_law_is_choice) .none kV43 dc43 pm43 an43 cd43 ct43), sl43⟩)
    (c43 : PySem.W.codeIn K cd43 "_law_is_choice" = true)
    (k43 : PySem.W.keepIn K (.ref f43) = true)
    (a44 : PySem.W.nsIn K mainGlobals "_law_choices" = some (some (.ref f44)))
    (l44 : K.lookup f44 = some ⟨oc44, od44, .func (PySem.W.fnOf "_law_choices" "_law_choices" (defArgs s_law_choices) (defBody s_law_choices) (defScope s_law_choices) .none kV44 dc44 pm44 an44 cd44 ct44), sl44⟩)
    (c44 : PySem.W.codeIn K cd44 "_law_choices" = true)
    (k44 : PySem.W.keepIn K (.ref f44) = true)
    (a45 : PySem.W.nsIn K mainGlobals "_law_made" = some (some (.ref f45)))
    (l45 : K.lookup f45 = some ⟨oc45, od45, .func (PySem.W.fnOf "_law_made" "_law_made" (defArgs s_law_made) (defBody s_law_made) (defScope s_law_made) .none kV45 dc45 pm45 an45 cd45 ct45), sl45⟩)
    (c45 : PySem.W.codeIn K cd45 "_law_made" = true)
    (k45 : PySem.W.keepIn K (.ref f45) = true)
    (a46 : PySem.W.nsIn K mainGlobals "_law_is_lot" = some (some (.ref f46)))
    (l46 : K.lookup f46 = some ⟨oc46, od46, .func (PySem.W.fnOf "_law_is_lot" "_law_is_lot" (defArgs s_law_is_lot) (defBody s_law_is_lot) (defScope s_law_is_lot) .none kV46 dc46 pm46 an46 cd46 ct46), sl46⟩)
    (c46 : PySem.W.codeIn K cd46 "_law_is_lot" = true)
    (k46 : PySem.W.keepIn K (.ref f46) = true)
    (a47 : PySem.W.nsIn K mainGlobals "_law_lacks" = some (some (.ref f47)))
    (l47 : K.lookup f47 = some ⟨oc47, od47, .func (PySem.W.fnOf "_law_lacks" "_law_lacks" (defArgs s_law_lacks) (defBody s_law_lacks) (defScope s_law_lacks) .none kV47 dc47 pm47 an47 cd47 ct47), sl47⟩)
    (c47 : PySem.W.codeIn K cd47 "_law_lacks" = true)
    (k47 : PySem.W.keepIn K (.ref f47) = true)
    (a48 : PySem.W.nsIn K mainGlobals "_law_lots" = some (some (.ref f48)))
    (l48 : K.lookup f48 = some ⟨oc48, od48, .func (PySem.W.fnOf "_law_lots" "_law_lots" (defArgs s_law_lots) (defBody s_law_lots) (defScope s_law_lots) .none kV48 dc48 pm48 an48 cd48 ct48), sl48⟩)
    (c48 : PySem.W.codeIn K cd48 "_law_lots" = true)
    (k48 : PySem.W.keepIn K (.ref f48) = true)
    (a49 : PySem.W.nsIn K mainGlobals "_law_bent_lot" = some (some (.ref f49)))
    (l49 : K.lookup f49 = some ⟨oc49, od49, .func (PySem.W.fnOf "_law_bent_lot" "_law_bent_lot" (defArgs s_law_bent_lot) (defBody s_law_bent_lot) (defScope s_law_bent_lot) .none kV49 dc49 pm49 an49 cd49 ct49), sl49⟩)
    (c49 : PySem.W.codeIn K cd49 "_law_bent_lot" = true)
    (k49 : PySem.W.keepIn K (.ref f49) = true)
    (a50 : PySem.W.nsIn K mainGlobals "_law_right" = some (some (.ref f50)))
    (l50 : K.lookup f50 = some ⟨oc50, od50, .func (PySem.W.fnOf "_law_right" "_law_right" (defArgs s_law_right) (defBody s_law_right) (defScope s_law_right) .none kV50 dc50 pm50 an50 cd50 ct50), sl50⟩)
    (c50 : PySem.W.codeIn K cd50 "_law_right" = true)
    (k50 : PySem.W.keepIn K (.ref f50) = true)
    (a51 : PySem.W.nsIn K mainGlobals "law" = some (some (.ref f51)))
    (l51 : K.lookup f51 = some ⟨oc51, od51, .func (PySem.W.fnOf "law" "law" (defArgs s_law) (defBody s_law) (defScope s_law) .none kV51 dc51 pm51 an51 cd51 ct51), sl51⟩)
    (c51 : PySem.W.codeIn K cd51 "law" = true)
    (k51 : PySem.W.keepIn K (.ref f51) = true)
    (z_len : PySem.W.nsIn K mainGlobals "len" = some none)
    (z_all : PySem.W.nsIn K mainGlobals "all" = some none)
    (z_any : PySem.W.nsIn K mainGlobals "any" = some none)
    (z_tuple : PySem.W.nsIn K mainGlobals "tuple" = some none)
    (z_isinstance : PySem.W.nsIn K mainGlobals "isinstance" = some none)
    (z_str : PySem.W.nsIn K mainGlobals "str" = some none)
    (z_list : PySem.W.nsIn K mainGlobals "list" = some none)
    (z_int : PySem.W.nsIn K mainGlobals "int" = some none)
    (z_abs : PySem.W.nsIn K mainGlobals "abs" = some none)
    (z_divmod : PySem.W.nsIn K mainGlobals "divmod" = some none)
    (z_range : PySem.W.nsIn K mainGlobals "range" = some none)
    (z_min : PySem.W.nsIn K mainGlobals "min" = some none)
    (z_max : PySem.W.nsIn K mainGlobals "max" = some none)
    (z_repr : PySem.W.nsIn K mainGlobals "repr" = some none)
    (n_MOST_SIGNS : PySem.W.nsIn K mainGlobals "MOST_SIGNS" = some (some (.int 8 tk_MOST_SIGNS)))
    (n_SIGNS : PySem.W.nsIn K mainGlobals "SIGNS" = some (some (.str "abcdefghijklmnopqrstuvwxyz" tk_SIGNS)))
    (n_MOST_COPIES : PySem.W.nsIn K mainGlobals "MOST_COPIES" = some (some (.int 40 tk_MOST_COPIES)))
    (a2016 : PySem.W.nsIn K mainGlobals "SIZES" = some (some (.ref f2016)))
    (l2016 : K.lookup f2016 = some ⟨.type "dict", none, .dict es2016 en2016, #[]⟩)
    (y2016 : PySem.W.KeysLit w.params es2016.toList)
    (v2016 : es2016.toList.map entI = tab_SIZES.map some)
    (w2016 : (f2016 == sysModules) = false)
    (qn_Plain_origins : PySem.W.findIn K (.ref C0) "origins" = some none)
    (qn_Plain_made : PySem.W.findIn K (.ref C0) "made" = some none)
    : ∃ fd : FuncData, (∀ (s : Shared) (v : Value), BindsTo s fd ⟨[v], []⟩ [("_law_script", v)]) ∧ ∀ base : Heap, K.In base → base.Ns mainGlobals mg → FnG l.prog w K mg base CX0 7 fa fd ["_law_script"] spLaw := by
  let ct : CTab := ⟨fun i => C0 + i, fun i j e => Nat.add_left_cancel (show C0 + i = C0 + j from e)⟩
  have e := hfa.symm.trans (PySem.W.mg_of X G a51)
  cases e
  have F11 := fun_mk (st := s_is_word) l11 c11 k11
  have b11 := F11.binds (ps := ["word"]) fun _ _ _ _ _ _ us hl => match us, hl with | [_], _ => rfl
  have F12 := fun_mk (st := s_are_words) l12 c12 k12
  have b12 := F12.binds (ps := ["words", "before"]) fun _ _ _ _ _ _ us hl => match us, hl with | [_, _], _ => rfl
  have F1000 := fun_mk (st := s_Plain___init__) l1000 c1000 k1000
  have b1000 := F1000.binds (ps := ["self"]) fun _ _ _ _ _ _ us hl => match us, hl with | [_], _ => rfl
  have F1001 := fun_mk (st := s_Plain_put) l1001 c1001 k1001
  have b1001 := F1001.binds (ps := ["self", "words"]) fun _ _ _ _ _ _ us hl => match us, hl with | [_, _], _ => rfl
  have F1002 := fun_mk (st := s_Plain_links) l1002 c1002 k1002
  have b1002 := F1002.binds (ps := ["self"]) fun _ _ _ _ _ _ us hl => match us, hl with | [_], _ => rfl
  have F1003 := fun_mk (st := s_Plain_inner) l1003 c1003 k1003
  have b1003 := F1003.binds (ps := ["self"]) fun _ _ _ _ _ _ us hl => match us, hl with | [_], _ => rfl
  have F14 := fun_mk (st := s_plain_of) l14 c14 k14
  have b14 := F14.binds (ps := ["value"]) fun _ _ _ _ _ _ us hl => match us, hl with | [_], _ => rfl
  have F22 := fun_mk (st := s_is_lot) l22 c22 k22
  have b22 := F22.binds (ps := ["plain", "value"]) fun _ _ _ _ _ _ us hl => match us, hl with | [_, _], _ => rfl
  have F23 := fun_mk (st := s_made_of) l23 c23 k23
  have b23 := F23.binds (ps := ["plain", "lot", "link"]) fun _ _ _ _ _ _ us hl => match us, hl with | [_, _, _], _ => rfl
  have F24 := fun_mk (st := s_shows_lack) l24 c24 k24
  have b24 := F24.binds (ps := ["plain", "value"]) fun _ _ _ _ _ _ us hl => match us, hl with | [_, _], _ => rfl
  have F32 := fun_mk (st := s_accepts) l32 c32 k32
  have b32 := F32.binds (ps := ["claim", "certificate"]) fun _ _ _ _ _ _ us hl => match us, hl with | [_, _], _ => rfl
  have F34 := fun_mk (st := s_law_urn) l34 c34 k34
  have b34 := F34.binds (ps := ["_law_script", "_law_turn"]) fun _ _ _ _ _ _ us hl => match us, hl with | [_, _], _ => rfl
  have F35 := fun_mk (st := s_law_pull) l35 c35 k35
  have b35 := F35.binds (ps := ["_law_urn_here", "_law_size"]) fun _ _ _ _ _ _ us hl => match us, hl with | [_, _], _ => rfl
  have F36 := fun_mk (st := s_law_of) l36 c36 k36
  have b36 := F36.binds (ps := ["_law_urn_here", "_law_some"]) fun _ _ _ _ _ _ us hl => match us, hl with | [_, _], _ => rfl
  have F37 := fun_mk (st := s_law_words) l37 c37 k37
  have b37 := F37.binds (ps := ["_law_urn_here", "_law_many"]) fun _ _ _ _ _ _ us hl => match us, hl with | [_, _], _ => rfl
  have F38 := fun_mk (st := s_law_rows) l38 c38 k38
  have b38 := F38.binds (ps := ["_law_urn_here", "_law_many", "_law_doubles"]) fun _ _ _ _ _ _ us hl => match us, hl with | [_, _, _], _ => rfl
  have F39 := fun_mk (st := s_law_text) l39 c39 k39
  have b39 := F39.binds (ps := ["_law_rows_now"]) fun _ _ _ _ _ _ us hl => match us, hl with | [_], _ => rfl
  have F40 := fun_mk (st := s_law_lines) l40 c40 k40
  have b40 := F40.binds (ps := ["_law_rows_now"]) fun _ _ _ _ _ _ us hl => match us, hl with | [_], _ => rfl
  have F41 := fun_mk (st := s_law_inner) l41 c41 k41
  have b41 := F41.binds (ps := ["_law_rows_now"]) fun _ _ _ _ _ _ us hl => match us, hl with | [_], _ => rfl
  have F42 := fun_mk (st := s_law_tuples) l42 c42 k42
  have b42 := F42.binds (ps := ["_law_rows_now"]) fun _ _ _ _ _ _ us hl => match us, hl with | [_], _ => rfl
  have F43 := fun_mk (st := s_law_is_choice) l43 c43 k43
  have b43 := F43.binds (ps := ["_law_rows_now", "_law_thing"]) fun _ _ _ _ _ _ us hl => match us, hl with | [_, _], _ => rfl
  have F44 := fun_mk (st := s_law_choices) l44 c44 k44
  have b44 := F44.binds (ps := ["_law_rows_now"]) fun _ _ _ _ _ _ us hl => match us, hl with | [_], _ => rfl
  have F45 := fun_mk (st := s_law_made) l45 c45 k45
  have b45 := F45.binds (ps := ["_law_rows_now", "_law_lot_now", "_law_line"]) fun _ _ _ _ _ _ us hl => match us, hl with | [_, _, _], _ => rfl
  have F46 := fun_mk (st := s_law_is_lot) l46 c46 k46
  have b46 := F46.binds (ps := ["_law_rows_now", "_law_thing"]) fun _ _ _ _ _ _ us hl => match us, hl with | [_, _], _ => rfl
  have F47 := fun_mk (st := s_law_lacks) l47 c47 k47
  have b47 := F47.binds (ps := ["_law_rows_now", "_law_thing"]) fun _ _ _ _ _ _ us hl => match us, hl with | [_, _], _ => rfl
  have F48 := fun_mk (st := s_law_lots) l48 c48 k48
  have b48 := F48.binds (ps := ["_law_rows_now"]) fun _ _ _ _ _ _ us hl => match us, hl with | [_], _ => rfl
  have F49 := fun_mk (st := s_law_bent_lot) l49 c49 k49
  have b49 := F49.binds (ps := ["_law_urn_here", "_law_rows_now", "_law_lot_now"]) fun _ _ _ _ _ _ us hl => match us, hl with | [_, _, _], _ => rfl
  have F50 := fun_mk (st := s_law_right) l50 c50 k50
  have b50 := F50.binds (ps := ["_law_urn_here"]) fun _ _ _ _ _ _ us hl => match us, hl with | [_], _ => rfl
  have F51 := fun_mk (st := s_law) l51 c51 k51
  have b51 := F51.binds (ps := ["_law_script"]) fun _ _ _ _ _ _ us hl => match us, hl with | [_], _ => rfl
  have T : Tx w K mg (fun n => match n with | 11 => f11 | 12 => f12 | 14 => f14 | 22 => f22 | 23 => f23 | 24 => f24 | 32 => f32 | 34 => f34 | 35 => f35 | 36 => f36 | 37 => f37 | 38 => f38 | 39 => f39 | 40 => f40 | 41 => f41 | 42 => f42 | 43 => f43 | 44 => f44 | 45 => f45 | 46 => f46 | 47 => f47 | 48 => f48 | 49 => f49 | 50 => f50 | 51 => fa | 1000 => f1000 | 1001 => f1001 | 1002 => f1002 | 1003 => f1003 | 2016 => f2016 | _ => 0) (fun n => match n with | 11 => PySem.W.fnOf "is_word" "is_word" (defArgs s_is_word) (defBody s_is_word) (defScope s_is_word) .none kV11 dc11 pm11 an11 cd11 ct11 | 12 => PySem.W.fnOf "are_words" "are_words" (defArgs s_are_words) (defBody s_are_words) (defScope s_are_words) .none kV12 dc12 pm12 an12 cd12 ct12 | 14 => PySem.W.fnOf "plain_of" "plain_of" (defArgs s_plain_of) (defBody s_plain_of) (defScope s_plain_of) .none kV14 dc14 pm14 an14 cd14 ct14 | 22 => PySem.W.fnOf "is_lot" "is_lot" (defArgs s_is_lot) (defBody s_is_lot) (defScope s_is_lot) .none kV22 dc22 pm22 an22 cd22 ct22 | 23 => PySem.W.fnOf "made_of" "made_of" (defArgs s_made_of) (defBody s_made_of) (defScope s_made_of) .none kV23 dc23 pm23 an23 cd23 ct23 | 24 => PySem.W.fnOf "shows_lack" "shows_lack" (defArgs s_shows_lack) (defBody s_shows_lack) (defScope s_shows_lack) .none kV24 dc24 pm24 an24 cd24 ct24 | 32 => PySem.W.fnOf "accepts" "accepts" (defArgs s_accepts) (defBody s_accepts) (defScope s_accepts) .none kV32 dc32 pm32 an32 cd32 ct32 | 34 => PySem.W.fnOf "_law_urn" "_law_urn" (defArgs s_law_urn) (defBody s_law_urn) (defScope s_law_urn) .none kV34 dc34 pm34 an34 cd34 ct34 | 35 => PySem.W.fnOf "_law_pull" "_law_pull" (defArgs s_law_pull) (defBody s_law_pull) (defScope s_law_pull) .none kV35 dc35 pm35 an35 cd35 ct35 | 36 => PySem.W.fnOf "_law_of" "_law_of" (defArgs s_law_of) (defBody s_law_of) (defScope s_law_of) .none kV36 dc36 pm36 an36 cd36 ct36 | 37 => PySem.W.fnOf "_law_words" "_law_words" (defArgs s_law_words) (defBody s_law_words) (defScope s_law_words) .none kV37 dc37 pm37 an37 cd37 ct37 | 38 => PySem.W.fnOf "_law_rows" "_law_rows" (defArgs s_law_rows) (defBody s_law_rows) (defScope s_law_rows) .none kV38 dc38 pm38 an38 cd38 ct38 | 39 => PySem.W.fnOf "_law_text" "_law_text" (defArgs s_law_text) (defBody s_law_text) (defScope s_law_text) .none kV39 dc39 pm39 an39 cd39 ct39 | 40 => PySem.W.fnOf "_law_lines" "_law_lines" (defArgs s_law_lines) (defBody s_law_lines) (defScope s_law_lines) .none kV40 dc40 pm40 an40 cd40 ct40 | 41 => PySem.W.fnOf "_law_inner" "_law_inner" (defArgs s_law_inner) (defBody s_law_inner) (defScope s_law_inner) .none kV41 dc41 pm41 an41 cd41 ct41 | 42 => PySem.W.fnOf "_law_tuples" "_law_tuples" (defArgs s_law_tuples) (defBody s_law_tuples) (defScope s_law_tuples) .none kV42 dc42 pm42 an42 cd42 ct42 | 43 => PySem.W.fnOf "_law_is_choice" "_law_is_choice" (defArgs s_law_is_choice) (defBody s_law_is_choice) (defScope s_law_is_choice) .none kV43 dc43 pm43 an43 cd43 ct43 | 44 => PySem.W.fnOf "_law_choices" "_law_choices" (defArgs s_law_choices) (defBody s_law_choices) (defScope s_law_choices) .none kV44 dc44 pm44 an44 cd44 ct44 | 45 => PySem.W.fnOf "_law_made" "_law_made" (defArgs s_law_made) (defBody s_law_made) (defScope s_law_made) .none kV45 dc45 pm45 an45 cd45 ct45 | 46 => PySem.W.fnOf "_law_is_lot" "_law_is_lot" (defArgs s_law_is_lot) (defBody s_law_is_lot) (defScope s_law_is_lot) .none kV46 dc46 pm46 an46 cd46 ct46 | 47 => PySem.W.fnOf "_law_lacks" "_law_lacks" (defArgs s_law_lacks) (defBody s_law_lacks) (defScope s_law_lacks) .none kV47 dc47 pm47 an47 cd47 ct47 | 48 => PySem.W.fnOf "_law_lots" "_law_lots" (defArgs s_law_lots) (defBody s_law_lots) (defScope s_law_lots) .none kV48 dc48 pm48 an48 cd48 ct48 | 49 => PySem.W.fnOf "_law_bent_lot" "_law_bent_lot" (defArgs s_law_bent_lot) (defBody s_law_bent_lot) (defScope s_law_bent_lot) .none kV49 dc49 pm49 an49 cd49 ct49 | 50 => PySem.W.fnOf "_law_right" "_law_right" (defArgs s_law_right) (defBody s_law_right) (defScope s_law_right) .none kV50 dc50 pm50 an50 cd50 ct50 | 51 => PySem.W.fnOf "law" "law" (defArgs s_law) (defBody s_law) (defScope s_law) .none kV51 dc51 pm51 an51 cd51 ct51 | 1000 => PySem.W.fnOf "__init__" "Plain.__init__" (defArgs s_Plain___init__) (defBody s_Plain___init__) (defScope s_Plain___init__) .none kV1000 dc1000 pm1000 an1000 cd1000 ct1000 | 1001 => PySem.W.fnOf "put" "Plain.put" (defArgs s_Plain_put) (defBody s_Plain_put) (defScope s_Plain_put) .none kV1001 dc1001 pm1001 an1001 cd1001 ct1001 | 1002 => PySem.W.fnOf "links" "Plain.links" (defArgs s_Plain_links) (defBody s_Plain_links) (defScope s_Plain_links) .none kV1002 dc1002 pm1002 an1002 cd1002 ct1002 | 1003 => PySem.W.fnOf "inner" "Plain.inner" (defArgs s_Plain_inner) (defBody s_Plain_inner) (defScope s_Plain_inner) .none kV1003 dc1003 pm1003 an1003 cd1003 ct1003 | _ => PySem.W.fnOf "law" "law" (defArgs s_law) (defBody s_law) (defScope s_law) .none kV51 dc51 pm51 an51 cd51 ct51) := ⟨PySem.W.mg_none_of X G z_len, PySem.W.mg_none_of X G z_all, PySem.W.mg_none_of X G z_any, PySem.W.mg_none_of X G z_tuple, PySem.W.mg_none_of X G z_isinstance, PySem.W.mg_none_of X G z_str, PySem.W.mg_none_of X G z_list, PySem.W.mg_none_of X G z_int, PySem.W.mg_none_of X G z_abs, PySem.W.mg_none_of X G z_divmod, PySem.W.mg_none_of X G z_range, PySem.W.mg_none_of X G z_min, PySem.W.mg_none_of X G z_max, PySem.W.mg_none_of X G z_repr, ⟨_, PySem.W.mg_of X G n_MOST_SIGNS⟩, ⟨_, PySem.W.mg_of X G n_SIGNS⟩, ⟨_, PySem.W.mg_of X G n_MOST_COPIES⟩, F11, PySem.W.mg_of X G a11, b11, F12, PySem.W.mg_of X G a12, b12, F1000, b1000, F1001, ⟨a1001, i1001, k1001⟩, b1001, F1002, ⟨a1002, i1002, k1002⟩, b1002, F1003, ⟨a1003, i1003, k1003⟩, b1003, F14, PySem.W.mg_of X G a14, b14, F22, PySem.W.mg_of X G a22, b22, F23, PySem.W.mg_of X G a23, b23, F24, PySem.W.mg_of X G a24, b24, F32, PySem.W.mg_of X G a32, b32, F34, PySem.W.mg_of X G a34, b34, F35, PySem.W.mg_of X G a35, b35, F36, PySem.W.mg_of X G a36, b36, F37, PySem.W.mg_of X G a37, b37, F38, PySem.W.mg_of X G a38, b38, F39, PySem.W.mg_of X G a39, b39, F40, PySem.W.mg_of X G a40, b40, F41, PySem.W.mg_of X G a41, b41, F42, PySem.W.mg_of X G a42, b42, F43, PySem.W.mg_of X G a43, b43, F44, PySem.W.mg_of X G a44, b44, F45, PySem.W.mg_of X G a45, b45, F46, PySem.W.mg_of X G a46, b46, F47, PySem.W.mg_of X G a47, b47, F48, PySem.W.mg_of X G a48, b48, F49, PySem.W.mg_of X G a49, b49, F50, PySem.W.mg_of X G a50, b50, F51, PySem.W.mg_of X G a51, b51, ⟨pg0, hd0, po0, sa0⟩, qn_Plain_origins, qn_Plain_made, ⟨mk0, a1000, i1000, kc0⟩, PySem.W.mg_of X G aC0, PySem.W.mg_of X G a2016, kdict_of l2016 y2016 w2016, ktab_of l2016 v2016⟩
  exact ⟨PySem.W.fnOf "law" "law" (defArgs s_law) (defBody s_law) (defScope s_law) .none kV51 dc51 pm51 an51 cd51 ct51, fun s v => .of_eq rfl, fun base _ _ => FnG.imp (ok_law T) (spLaw_of maths)⟩
end K53
open PySem PySem.W PyProof.Rows
set_option maxRecDepth 100000 in
set_option maxHeartbeats 0 in
theorem PySem.Challenge.cw_basetrees_k53_whole_lots_judged_holds : PySem.Challenge.rw_basetrees_k53_whole_lots_judged.Holds := by
  w_on; o_law; k_head; (case hw => w_witness2)
  k_fill
  refine Dn.walk_law (l := PySem.Challenge.rw_basetrees_k53_whole_lots_judged) (k := 7) (x := "_law_script") rfl rfl ⟨rfl, by decide, by decide⟩ (fun w h Y => PySem.W.kIn_of Y) ?L ?F
  case L => (intro w; kernel_rfl)
  case F =>
    intro w mg fa h KX G hmg
    refine' K53.all_mk KX G hmg ?aC0 ?pg0 ?hd0 ?po0 ?sa0 ?mk0 ?kc0 ?a11 ?l11 ?c11 ?k11 ?a12 ?l12 ?c12 ?k12 ?a1000 ?i1000 ?l1000 ?c1000 ?k1000 ?a1001 ?i1001 ?l1001 ?c1001 ?k1001 ?a1002 ?i1002 ?l1002 ?c1002 ?k1002 ?a1003 ?i1003 ?l1003 ?c1003 ?k1003 ?a14 ?l14 ?c14 ?k14 ?a22 ?l22 ?c22 ?k22 ?a23 ?l23 ?c23 ?k23 ?a24 ?l24 ?c24 ?k24 ?a32 ?l32 ?c32 ?k32 ?a34 ?l34 ?c34 ?k34 ?a35 ?l35 ?c35 ?k35 ?a36 ?l36 ?c36 ?k36 ?a37 ?l37 ?c37 ?k37 ?a38 ?l38 ?c38 ?k38 ?a39 ?l39 ?c39 ?k39 ?a40 ?l40 ?c40 ?k40 ?a41 ?l41 ?c41 ?k41 ?a42 ?l42 ?c42 ?k42 ?a43 ?l43 ?c43 ?k43 ?a44 ?l44 ?c44 ?k44 ?a45 ?l45 ?c45 ?k45 ?a46 ?l46 ?c46 ?k46 ?a47 ?l47 ?c47 ?k47 ?a48 ?l48 ?c48 ?k48 ?a49 ?l49 ?c49 ?k49 ?a50 ?l50 ?c50 ?k50 ?a51 ?l51 ?c51 ?k51 ?z_len ?z_all ?z_any ?z_tuple ?z_isinstance ?z_str ?z_list ?z_int ?z_abs ?z_divmod ?z_range ?z_min ?z_max ?z_repr ?n_MOST_SIGNS ?n_SIGNS ?n_MOST_COPIES ?a2016 ?l2016 ?y2016 ?v2016 ?w2016 ?qn_Plain_origins ?qn_Plain_made
    (case aC0 => k_is)
    (case pg0 => k_is)
    (case hd0 => k_is)
    (case po0 => k_is)
    (case sa0 => k_is)
    (case mk0 => k_is)
    (case kc0 => k_is)
    (case a11 => k_is)
    (case l11 => k_is)
    (case c11 => k_is)
    (case k11 => k_is)
    (case a12 => k_is)
    (case l12 => k_is)
    (case c12 => k_is)
    (case k12 => k_is)
    (case a1000 => k_is)
    (case i1000 => k_is)
    (case l1000 => k_is)
    (case c1000 => k_is)
    (case k1000 => k_is)
    (case a1001 => k_is)
    (case i1001 => k_is)
    (case l1001 => k_is)
    (case c1001 => k_is)
    (case k1001 => k_is)
    (case a1002 => k_is)
    (case i1002 => k_is)
    (case l1002 => k_is)
    (case c1002 => k_is)
    (case k1002 => k_is)
    (case a1003 => k_is)
    (case i1003 => k_is)
    (case l1003 => k_is)
    (case c1003 => k_is)
    (case k1003 => k_is)
    (case a14 => k_is)
    (case l14 => k_is)
    (case c14 => k_is)
    (case k14 => k_is)
    (case a22 => k_is)
    (case l22 => k_is)
    (case c22 => k_is)
    (case k22 => k_is)
    (case a23 => k_is)
    (case l23 => k_is)
    (case c23 => k_is)
    (case k23 => k_is)
    (case a24 => k_is)
    (case l24 => k_is)
    (case c24 => k_is)
    (case k24 => k_is)
    (case a32 => k_is)
    (case l32 => k_is)
    (case c32 => k_is)
    (case k32 => k_is)
    (case a34 => k_is)
    (case l34 => k_is)
    (case c34 => k_is)
    (case k34 => k_is)
    (case a35 => k_is)
    (case l35 => k_is)
    (case c35 => k_is)
    (case k35 => k_is)
    (case a36 => k_is)
    (case l36 => k_is)
    (case c36 => k_is)
    (case k36 => k_is)
    (case a37 => k_is)
    (case l37 => k_is)
    (case c37 => k_is)
    (case k37 => k_is)
    (case a38 => k_is)
    (case l38 => k_is)
    (case c38 => k_is)
    (case k38 => k_is)
    (case a39 => k_is)
    (case l39 => k_is)
    (case c39 => k_is)
    (case k39 => k_is)
    (case a40 => k_is)
    (case l40 => k_is)
    (case c40 => k_is)
    (case k40 => k_is)
    (case a41 => k_is)
    (case l41 => k_is)
    (case c41 => k_is)
    (case k41 => k_is)
    (case a42 => k_is)
    (case l42 => k_is)
    (case c42 => k_is)
    (case k42 => k_is)
    (case a43 => k_is)
    (case l43 => k_is)
    (case c43 => k_is)
    (case k43 => k_is)
    (case a44 => k_is)
    (case l44 => k_is)
    (case c44 => k_is)
    (case k44 => k_is)
    (case a45 => k_is)
    (case l45 => k_is)
    (case c45 => k_is)
    (case k45 => k_is)
    (case a46 => k_is)
    (case l46 => k_is)
    (case c46 => k_is)
    (case k46 => k_is)
    (case a47 => k_is)
    (case l47 => k_is)
    (case c47 => k_is)
    (case k47 => k_is)
    (case a48 => k_is)
    (case l48 => k_is)
    (case c48 => k_is)
    (case k48 => k_is)
    (case a49 => k_is)
    (case l49 => k_is)
    (case c49 => k_is)
    (case k49 => k_is)
    (case a50 => k_is)
    (case l50 => k_is)
    (case c50 => k_is)
    (case k50 => k_is)
    (case a51 => k_is)
    (case l51 => k_is)
    (case c51 => k_is)
    (case k51 => k_is)
    (case z_len => k_is)
    (case z_all => k_is)
    (case z_any => k_is)
    (case z_tuple => k_is)
    (case z_isinstance => k_is)
    (case z_str => k_is)
    (case z_list => k_is)
    (case z_int => k_is)
    (case z_abs => k_is)
    (case z_divmod => k_is)
    (case z_range => k_is)
    (case z_min => k_is)
    (case z_max => k_is)
    (case z_repr => k_is)
    (case n_MOST_SIGNS => k_is)
    (case n_SIGNS => k_is)
    (case n_MOST_COPIES => k_is)
    (case a2016 => k_is)
    (case l2016 => k_is)
    (case y2016 => (repeat' (first | exact trivial | refine ⟨⟨_, _, rfl, rfl⟩, ?_⟩)))
    (case v2016 => rfl)
    (case w2016 => rfl)
    (case qn_Plain_origins => k_is)
    (case qn_Plain_made => k_is)
