import PyProof.Rows.All
import Wide.All
import OpenK.AllK
import Wide.FinOn
import HandS.ForMost
import HandS.ForExc
import HandS.IsInst
import HandS.Deep
import HandS.Conv
import HandS.Zip
import HandS.Evl
import HandS.Walk
import HandS.Flow
import HandS.TupAny
import HandS.TupMul
import HandS.TupLe
import HandS.Text
import KE.GoesEnum
import HandS.Iter
import HandS.More
import HandS.NoneIn
import HandS.Dict
import PyProof.SumWalkG
import PyProof.WalksMore
import HandS.Defaults
import HandS.Style
import KE.KDictZip
import KE.GoesZip
import KE.GoesMore
import HandS.SetFor
import PyProof.EqKinds
import HandS.Strs
import HandS.ListItems
import HandS.OwnEq
import HandS.Property
import KE.KCallOwn
import HandS.MakeKwOnly
import HandS.FStr
import HandS.RaiseMore
import KE.SortData
import HandS.SortInts
import PySem.Challenge.RW_basetrees_k06_whole_zigzags
set_option Elab.async false
set_option linter.all false
set_option maxRecDepth 100000
set_option maxHeartbeats 2000000
namespace Dn
open PySem L2
/-- where the classes stand -/
class CTab where
  ct : Nat → Addr
  inj : ∀ i j, ct i = ct j → i = j
variable [CTab]

/-! ### heaps: a step from (B, H) to (B2, H2). B is the part of the heap that stands for good -/
structure Go (B H B2 H2 : Hp) : Prop where
  h : Same H H2
  b : Same B B2
  bh : Same B2 H2
  fr : ∀ a o, B2 a = some o → B a = some o ∨ H a = none
theorem Go.refl {B H : Hp} (s : Same B H) : Go B H B H := ⟨Same.refl H, Same.refl B, s, fun _ _ e => .inl e⟩
theorem Go.trans {B H B1 H1 B2 H2 : Hp} (x : Go B H B1 H1) (y : Go B1 H1 B2 H2) : Go B H B2 H2 :=
  ⟨x.h.trans y.h, x.b.trans y.b, y.bh, fun a o e => by
    rcases y.fr a o e with z | z
    · exact x.fr a o z
    · exact .inr (x.h.free z)⟩
/-- a new object, kept for good -/
theorem Go.new {B H : Hp} (s : Same B H) {p : Addr} {o : HO} (hp : H p = none) : Go B H (upd B p o) (upd H p o) := by
  refine ⟨fun b u e => ?_, fun b u e => ?_, fun b u e => ?_, fun b u e => ?_⟩
  · rw [upd_ne (ne_of_none e hp)]; exact e
  · rw [upd_ne (ne_of_none (s b u e) hp)]; exact e
  · by_cases hb : b = p
    · subst hb; rw [upd_same] at e ⊢; exact e
    · rw [upd_ne hb] at e ⊢; exact s b u e
  · by_cases hb : b = p
    · subst hb; exact .inr hp
    · rw [upd_ne hb] at e; exact .inl e
/-- a new object, one's own (it may change) -/
theorem Go.own {B H : Hp} (s : Same B H) {p : Addr} {o : HO} (hp : H p = none) : Go B H B (upd H p o) := by
  refine ⟨fun b u e => ?_, Same.refl B, fun b u e => ?_, fun b u e => .inl e⟩
  · rw [upd_ne (ne_of_none e hp)]; exact e
  · rw [upd_ne (ne_of_none (s b u e) hp)]; exact s b u e
/-- one's own object changes -/
theorem Go.mut {B0 H0 B H : Hp} (g : Go B0 H0 B H) {p : Addr} {o : HO} (h0 : H0 p = none) (hb : B p = none) : Go B0 H0 B (upd H p o) := by
  refine ⟨fun b u e => ?_, g.b, fun b u e => ?_, g.fr⟩
  · rw [upd_ne (ne_of_none e h0)]; exact g.h b u e
  · rw [upd_ne (ne_of_none e hb)]; exact g.bh b u e
/-- one's own object is kept for good from here on -/
theorem Go.keep {B0 H0 B H : Hp} (g : Go B0 H0 B H) {p : Addr} {o : HO} (h0 : H0 p = none) (hb : B p = none) (hp : H p = some o) : Go B0 H0 (upd B p o) H := by
  refine ⟨g.h, fun b u e => ?_, fun b u e => ?_, fun b u e => ?_⟩
  · rw [upd_ne (ne_of_none (g.b b u e) hb)]; exact g.b b u e
  · by_cases q : b = p
    · subst q; rw [upd_same] at e; rw [hp]; exact e
    · rw [upd_ne q] at e; exact g.bh b u e
  · by_cases q : b = p
    · subst q; exact .inr h0
    · rw [upd_ne q] at e; exact g.fr b u e
theorem Go.noB {B H B2 H2 : Hp} (g : Go B H B2 H2) {p : Addr} {o : HO} (hb : B p = none) (hp : H p = some o) : B2 p = none := by
  cases q : B2 p with
  | none => rfl
  | some u =>
    rcases g.fr p u q with z | z
    · rw [hb] at z; cases z
    · rw [hp] at z; cases z
theorem same_upd {B H : Hp} (s : Same B H) {p : Addr} {o : HO} (hb : B p = none) : Same B (upd H p o) := fun b u e => by
  rw [upd_ne (ne_of_none e hb)]; exact s b u e

/-- where one stands, seen from B -/
structure At (B B1 H1 : Hp) : Prop where
  b : Same B B1
  bh : Same B1 H1
theorem At.refl {B H : Hp} (s : Same B H) : At B B H := ⟨Same.refl B, s⟩
theorem At.trans {B B1 H1 B2 H2 : Hp} (x : At B B1 H1) (y : Go B1 H1 B2 H2) : At B B2 H2 := ⟨x.b.trans y.b, y.bh⟩
theorem Go.at {B H B1 H1 : Hp} (g : Go B H B1 H1) : At B B1 H1 := ⟨g.b, g.bh⟩
instance {B H B1 H1 : Hp} : CoeOut (Go B H B1 H1) (At B B1 H1) := ⟨Go.at⟩
theorem At.tr {B B1 H1 B2 H2 : Hp} (x : At B B1 H1) (y : At B1 B2 H2) : At B B2 H2 := ⟨x.b.trans y.b, y.bh⟩

/-! ### data -/
inductive U where
  | non | bl (b : Bool) | int (i : Int) | str (s : Str)
  | tup (xs : List U) | lst (xs : List U)
  /-- a tuple whose object is known to have no dict of its own -/
  | tpd (xs : List U)
  /-- a locked list: the script, or one's own list while it is looked at -/
  | frl (xs : List U)
  | dic (kvs : List (Key × U))
  | dit (kvs : List (List Key × U))
  /-- an instance -/
  | obj (C : Nat) (fs : List (Str × U))
/-! ### what a value stands for, in the part that stands for good -/
mutual
inductive Rp (B : Hp) : U → V → Prop
  | non : Rp B .non .non
  | bl (b : Bool) : Rp B (.bl b) (.bl b)
  | int (i : Int) : Rp B (.int i) (.int i)
  | str (s : Str) : Rp B (.str s) (.str s)
  | tup {a : Addr} {xs : List U} {vs : List V} : B a = some (.tup vs) → Rps B xs vs → Rp B (.tup xs) (.ref a)
  | tpd {a : Addr} {xs : List U} {vs : List V} {o : Obj} : B a = some (.frz o (.tup vs)) → o.dict = none → Rps B xs vs → Rp B (.tpd xs) (.ref a)
  | lst {a : Addr} {xs : List U} {vs : List V} : B a = some (.lst vs) → Rps B xs vs → Rp B (.lst xs) (.ref a)
  | frl {a : Addr} {xs : List U} {vs : List V} {o : Obj} : B a = some (.frz o (.lst vs)) → Rps B xs vs → Rp B (.frl xs) (.ref a)
  | dic {a : Addr} {kvs : List (Key × U)} {es : List (Key × V)} {o : Obj} : B a = some (.frz o (.dK es)) → Rpk B kvs es → Rp B (.dic kvs) (.ref a)
  | dit {a : Addr} {kvs : List (List Key × U)} {es : List (List Key × V)} {o : Obj} : B a = some (.frz o (.dT es)) → Rpt B kvs es → Rp B (.dit kvs) (.ref a)
  | obj {a dx : Addr} {C : Nat} {fs : List (Str × U)} {es : List (Str × V)} : B a = some (.ins (CTab.ct C) dx es) → B dx = some (.own a) → Rpf B fs es → Rp B (.obj C fs) (.ref a)
inductive Rps (B : Hp) : List U → List V → Prop
  | nil : Rps B [] []
  | cons {x : U} {v : V} {xs : List U} {vs : List V} : Rp B x v → Rps B xs vs → Rps B (x :: xs) (v :: vs)
inductive Rpk (B : Hp) : List (Key × U) → List (Key × V) → Prop
  | nil : Rpk B [] []
  | cons {k : Key} {x : U} {v : V} {xs : List (Key × U)} {vs : List (Key × V)} : Rp B x v → Rpk B xs vs → Rpk B ((k, x) :: xs) ((k, v) :: vs)
inductive Rpt (B : Hp) : List (List Key × U) → List (List Key × V) → Prop
  | nil : Rpt B [] []
  | cons {k : List Key} {x : U} {v : V} {xs : List (List Key × U)} {vs : List (List Key × V)} : Rp B x v → Rpt B xs vs → Rpt B ((k, x) :: xs) ((k, v) :: vs)
inductive Rpf (B : Hp) : List (Str × U) → List (Str × V) → Prop
  | nil : Rpf B [] []
  | cons {k : Str} {x : U} {v : V} {xs : List (Str × U)} {vs : List (Str × V)} : Rp B x v → Rpf B xs vs → Rpf B ((k, x) :: xs) ((k, v) :: vs)
end
/-- what keeps the readings -/
structure Kp (B B' : Hp) : Prop where
  tup : ∀ a xs, B a = some (.tup xs) → B' a = some (.tup xs)
  lst : ∀ a xs, B a = some (.lst xs) → B' a = some (.lst xs)
  frz : ∀ a o u, B a = some (.frz o u) → B' a = some (.frz o u)
  ins : ∀ a C dx xs, B a = some (.ins C dx xs) → B' a = some (.ins C dx xs)
  own : ∀ a x, B a = some (.own x) → B' a = some (.own x)
theorem rd_same {B B' : Hp} {a : Addr} {u : HO} (s : Same B B') (h : Rd B a u) : Rd B' a u := by
  rcases h with h | ⟨o, h⟩
  · exact .inl (s _ _ h)
  · exact .inr ⟨o, s _ _ h⟩
theorem Kp.of {B B' : Hp} (s : Same B B') : Kp B B' := ⟨fun _ _ => s _ _, fun _ _ => s _ _, fun _ _ _ => s _ _, fun _ _ _ _ => s _ _, fun _ _ => s _ _⟩
section
variable {B B' : Hp}
mutual
theorem Rp.kp (s : Kp B B') : ∀ {u : U} {v : V}, Rp B u v → Rp B' u v
  | _, _, .non => .non
  | _, _, .bl b => .bl b
  | _, _, .int i => .int i
  | _, _, .str x => .str x
  | _, _, .tup h r => .tup (s.tup _ _ h) (Rps.kp s r)
  | _, _, .tpd h d r => .tpd (s.frz _ _ _ h) d (Rps.kp s r)
  | _, _, .lst h r => .lst (s.lst _ _ h) (Rps.kp s r)
  | _, _, .frl h r => .frl (s.frz _ _ _ h) (Rps.kp s r)
  | _, _, .dic h r => .dic (s.frz _ _ _ h) (Rpk.kp s r)
  | _, _, .dit h r => .dit (s.frz _ _ _ h) (Rpt.kp s r)
  | _, _, .obj h k r => .obj (s.ins _ _ _ _ h) (s.own _ _ k) (Rpf.kp s r)
theorem Rps.kp (s : Kp B B') : ∀ {u : List U} {v : List V}, Rps B u v → Rps B' u v
  | _, _, .nil => .nil
  | _, _, .cons h r => .cons (Rp.kp s h) (Rps.kp s r)
theorem Rpk.kp (s : Kp B B') : ∀ {u : List (Key × U)} {v : List (Key × V)}, Rpk B u v → Rpk B' u v
  | _, _, .nil => .nil
  | _, _, .cons h r => .cons (Rp.kp s h) (Rpk.kp s r)
theorem Rpt.kp (s : Kp B B') : ∀ {u : List (List Key × U)} {v : List (List Key × V)}, Rpt B u v → Rpt B' u v
  | _, _, .nil => .nil
  | _, _, .cons h r => .cons (Rp.kp s h) (Rpt.kp s r)
theorem Rpf.kp (s : Kp B B') : ∀ {u : List (Str × U)} {v : List (Str × V)}, Rpf B u v → Rpf B' u v
  | _, _, .nil => .nil
  | _, _, .cons h r => .cons (Rp.kp s h) (Rpf.kp s r)
end
end
theorem Rp.upA {B B2 H2 : Hp} {u : U} {v : V} (r : Rp B u v) (g : At B B2 H2) : Rp B2 u v := r.kp (Kp.of g.b)
theorem Rp.up {B H B2 H2 : Hp} {u : U} {v : V} (r : Rp B u v) (g : Go B H B2 H2) : Rp B2 u v := r.kp (Kp.of g.b)
theorem Rps.up {B H B2 H2 : Hp} {u : List U} {v : List V} (r : Rps B u v) (g : Go B H B2 H2) : Rps B2 u v := r.kp (Kp.of g.b)
theorem Rp.in {B H : Hp} {u : U} {v : V} (r : Rp B u v) (s : Same B H) : Rp H u v := r.kp (Kp.of s)
theorem Rps.in {B H : Hp} {u : List U} {v : List V} (r : Rps B u v) (s : Same B H) : Rps H u v := r.kp (Kp.of s)
section
variable {B : Hp}
theorem Rps.length : ∀ {xs : List U} {vs : List V}, Rps B xs vs → vs.length = xs.length
  | _, _, .nil => rfl
  | _, _, .cons _ t => by rw [List.length_cons, List.length_cons, Rps.length t]
theorem Rps.get : ∀ {xs : List U} {vs : List V} {i : Nat} {x : U}, Rps B xs vs → xs[i]? = some x → ∃ v, vs[i]? = some v ∧ Rp B x v
  | _, _, _, _, .nil, e => by simp at e
  | _, _, 0, _, .cons h _, e => by simp at e; subst e; exact ⟨_, rfl, h⟩
  | _, _, i + 1, x, .cons _ t, e => by
    obtain ⟨v, h1, h2⟩ := Rps.get (i := i) (x := x) t (by simpa using e)
    exact ⟨v, by simpa using h1, h2⟩
theorem Rps.back : ∀ {xs : List U} {vs : List V} {i : Nat} {v : V}, Rps B xs vs → vs[i]? = some v → ∃ x, xs[i]? = some x ∧ Rp B x v
  | _, _, _, _, .nil, e => by simp at e
  | _, _, 0, _, .cons h _, e => by simp at e; subst e; exact ⟨_, rfl, h⟩
  | _, _, i + 1, v, .cons _ t, e => by
    obtain ⟨x, h1, h2⟩ := Rps.back (i := i) (v := v) t (by simpa using e)
    exact ⟨x, by simpa using h1, h2⟩
theorem Rps.append : ∀ {xs ys : List U} {vs ws : List V}, Rps B xs vs → Rps B ys ws → Rps B (xs ++ ys) (vs ++ ws)
  | _, _, _, _, .nil, s => s
  | _, _, _, _, .cons h t, s => .cons h (Rps.append t s)
theorem Rps.one {x : U} {v : V} (h : Rp B x v) : Rps B [x] [v] := .cons h .nil
theorem Rps.take : ∀ {xs : List U} {vs : List V} (n : Nat), Rps B xs vs → Rps B (xs.take n) (vs.take n)
  | _, _, 0, _ => by simp; exact .nil
  | _, _, _ + 1, .nil => .nil
  | _, _, n + 1, .cons h t => .cons h (Rps.take n t)
theorem Rps.drop : ∀ {xs : List U} {vs : List V} (n : Nat), Rps B xs vs → Rps B (xs.drop n) (vs.drop n)
  | _, _, 0, h => h
  | _, _, _ + 1, .nil => .nil
  | _, _, n + 1, .cons _ t => Rps.drop n t
theorem Rps.ints : ∀ (ns : List Int), Rps B (ns.map U.int) (ns.map V.int)
  | [] => .nil
  | n :: ns => .cons (.int n) (Rps.ints ns)
end

/-! ### what an expression comes to: none where nothing is said -/
def EvO (te : TE) (σ : St) (B H : Hp) (o : Option U) : Prop :=
  ∀ z, o = some z → ∀ B1 H1, At B B1 H1 → ∀ Q : VK, (∀ v B2 H2, Go B1 H1 B2 H2 → Rp B2 z v → Q v H2) → te σ H1 Q
def EvT (tt : TT) (σ : St) (B H : Hp) (o : Option Bool) : Prop :=
  ∀ z, o = some z → ∀ B1 H1, At B B1 H1 → ∀ Q : Bool → Hp → Prop, (∀ B2 H2, Go B1 H1 B2 H2 → Q z H2) → tt σ H1 Q
def EvA (ta : TA) (σ : St) (B H : Hp) (o : Option (List U)) : Prop :=
  ∀ z, o = some z → ∀ B1 H1, At B B1 H1 → ∀ Q : List V → Hp → Prop, (∀ v B2 H2, Go B1 H1 B2 H2 → Rps B2 z v → Q v H2) → ta σ H1 Q
def U.asB : U → Option Bool
  | .bl b => some b
  | _ => none
def andO (a b : Option Bool) : Option Bool := a.bind fun x => if x = true then b else some false
def orO (a b : Option Bool) : Option Bool := a.bind fun x => if x = true then some true else b
def notO (a : Option Bool) : Option Bool := a.map fun x => !x
def andV (a b : Option U) : Option U := (a.bind U.asB).bind fun x => if x = true then b else some (.bl false)
def orV (a b : Option U) : Option U := (a.bind U.asB).bind fun x => if x = true then some (.bl true) else b
def notV (a : Option U) : Option U := (a.bind U.asB).map fun x => .bl (!x)
def ifO {α : Type} (c : Option Bool) (a b : Option α) : Option α := c.bind fun x => if x = true then a else b
def consO (a : Option U) (b : Option (List U)) : Option (List U) := a.bind fun x => b.map fun r => x :: r
section
variable {α β : Type}
theorem bind_some {o : Option α} {f : α → Option β} {z : β} (h : o.bind f = some z) : ∃ x, o = some x ∧ f x = some z := by
  cases o with
  | none => cases h
  | some x => exact ⟨x, rfl, h⟩
theorem map_some {o : Option α} {f : α → β} {z : β} (h : o.map f = some z) : ∃ x, o = some x ∧ f x = z := by
  cases o with
  | none => cases h
  | some x => exact ⟨x, rfl, Option.some.inj h⟩
end
section
variable {σ : St} {B H B1 H1 : Hp} {ta tb te tc : TE} {t u : TT} {oa ob oc : Option U}
theorem EvO.go {o : Option U} (h : EvO te σ B H o) (g : At B B1 H1) : EvO te σ B1 H1 o := fun z e B2 H2 g2 => h z e B2 H2 (g.tr g2)
theorem EvT.go {o : Option Bool} (h : EvT t σ B H o) (g : At B B1 H1) : EvT t σ B1 H1 o := fun z e B2 H2 g2 => h z e B2 H2 (g.tr g2)
theorem eo_var {x : U} {v : V} {i : Nat} (h : σ[i]? = some (some v)) (r : Rp B x v) : EvO (tVar i) σ B H (some x) := fun z e B1 H1 g Q q => ⟨v, h, by cases e; exact q v B1 H1 (Go.refl g.bh) (r.upA g)⟩
theorem eo_c {x : U} {v : V} (r : Rp B x v) : EvO (tC v) σ B H (some x) := fun z e B1 H1 g Q q => by cases e; exact q v B1 H1 (Go.refl g.bh) (r.upA g)
theorem eo_int {i : Int} : EvO (tC (.int i)) σ B H (some (.int i)) := eo_c (.int i)
theorem eo_bl {i : Bool} : EvO (tC (.bl i)) σ B H (some (.bl i)) := eo_c (.bl i)
theorem eo_str {i : Str} : EvO (tC (.str i)) σ B H (some (.str i)) := eo_c (.str i)
theorem eo_non : EvO (tC .non) σ B H (some .non) := eo_c .non
/-- an operation on two values -/
def RV (r : R2) (f : U → U → Option U) : Prop := ∀ x y z, f x y = some z → ∀ v w B H, Same B H → Rp B x v → Rp B y w → ∀ Q : VK, (∀ v2 B2 H2, Go B H B2 H2 → Rp B2 z v2 → Q v2 H2) → r v w H Q
theorem eo_op {r : R2} {f : U → U → Option U} (ha : EvO ta σ B H oa) (hb : EvO tb σ B H ob) (hr : RV r f) : EvO (tOp r ta tb) σ B H (oa.bind fun x => ob.bind fun y => f x y) := fun z e B1 H1 g Q q => by
  obtain ⟨x, ex, e⟩ := bind_some e
  obtain ⟨y, ey, e⟩ := bind_some e
  exact ha x ex B1 H1 g _ fun v B2 H2 g2 r2 => hb y ey B2 H2 (g.trans g2) _ fun w B3 H3 g3 r3 => hr x y z e v w B3 H3 g3.bh (r2.up g3) r3 Q fun v2 B4 H4 g4 r4 => q v2 B4 H4 ((g2.trans g3).trans g4) r4
def RU (r : V → Hp → VK → Prop) (f : U → Option U) : Prop := ∀ x z, f x = some z → ∀ v B H, Same B H → Rp B x v → ∀ Q : VK, (∀ v2 B2 H2, Go B H B2 H2 → Rp B2 z v2 → Q v2 H2) → r v H Q
theorem eo_un {r : V → Hp → VK → Prop} {f : U → Option U} (ha : EvO ta σ B H oa) (hr : RU r f) : EvO (tUn r ta) σ B H (oa.bind f) := fun z e B1 H1 g Q q => by
  obtain ⟨x, ex, e⟩ := bind_some e
  exact ha x ex B1 H1 g _ fun v B2 H2 g2 r2 => hr x z e v B2 H2 g2.bh r2 Q fun v2 B4 H4 g4 r4 => q v2 B4 H4 (g2.trans g4) r4
/-- a call by values -/
def RC (r : List V → Hp → VK → Prop) (f : List U → Option U) : Prop := ∀ xs z, f xs = some z → ∀ vs B H, Same B H → Rps B xs vs → ∀ Q : VK, (∀ v2 B2 H2, Go B H B2 H2 → Rp B2 z v2 → Q v2 H2) → r vs H Q
theorem eo_cb {r : List V → Hp → VK → Prop} {f : List U → Option U} {tl : TA} {ol : Option (List U)} (ha : EvA tl σ B H ol) (hr : RC r f) : EvO (tCB r tl) σ B H (ol.bind f) := fun z e B1 H1 g Q q => by
  obtain ⟨x, ex, e⟩ := bind_some e
  exact ha x ex B1 H1 g _ fun v B2 H2 g2 r2 => hr x z e v B2 H2 g2.bh r2 Q fun v2 B4 H4 g4 r4 => q v2 B4 H4 (g2.trans g4) r4
/-! ### tests -/
theorem et_test (h : EvO te σ B H oa) : EvT (tTest te) σ B H (oa.bind U.asB) := fun z e B1 H1 g _ q => by
  obtain ⟨x, ex, e⟩ := bind_some e
  cases x <;> cases e
  exact h _ ex B1 H1 g _ fun v B2 H2 g2 r => by cases r; exact ⟨_, rfl, q B2 H2 g2⟩
theorem et_B (h : EvO te σ B H oa) : EvT (tB te) σ B H (oa.bind U.asB) := fun z e B1 H1 g _ q => by
  obtain ⟨x, ex, e⟩ := bind_some e
  cases x <;> cases e
  exact h _ ex B1 H1 g _ fun v B2 H2 g2 r => by cases r; exact ⟨_, rfl, q B2 H2 g2⟩
theorem et_and {a b : Option Bool} (h1 : EvT t σ B H a) (h2 : EvT u σ B H b) : EvT (tAnd t u) σ B H (andO a b) := fun z e B1 H1 g Q q => by
  obtain ⟨x, ex, e⟩ := bind_some e
  refine h1 x ex B1 H1 g _ fun B2 H2 g2 => ?_
  cases x with
  | true => exact h2 z e B2 H2 (g.trans g2) Q fun B3 H3 g3 => q B3 H3 (g2.trans g3)
  | false => cases e; exact q B2 H2 g2
theorem et_or {a b : Option Bool} (h1 : EvT t σ B H a) (h2 : EvT u σ B H b) : EvT (tOr t u) σ B H (orO a b) := fun z e B1 H1 g Q q => by
  obtain ⟨x, ex, e⟩ := bind_some e
  refine h1 x ex B1 H1 g _ fun B2 H2 g2 => ?_
  cases x with
  | false => exact h2 z e B2 H2 (g.trans g2) Q fun B3 H3 g3 => q B3 H3 (g2.trans g3)
  | true => cases e; exact q B2 H2 g2
theorem et_not {a : Option Bool} (h1 : EvT t σ B H a) : EvT (tNot t) σ B H (notO a) := fun z e B1 H1 g _ q => by
  obtain ⟨x, ex, e⟩ := map_some e
  subst e
  exact h1 x ex B1 H1 g _ fun B2 H2 g2 => q B2 H2 g2
theorem eo_and (h1 : EvO ta σ B H oa) (h2 : EvO tb σ B H ob) : EvO (tAndV ta tb) σ B H (andV oa ob) := fun z e B1 H1 g Q q => by
  obtain ⟨x, ex, e⟩ := bind_some e
  obtain ⟨y, ey, ex⟩ := bind_some ex
  cases y <;> cases ex
  refine h1 _ ey B1 H1 g _ fun v B2 H2 g2 r => ?_
  cases r
  refine ⟨x, rfl, ?_⟩
  cases x with
  | true => exact h2 z e B2 H2 (g.trans g2) Q fun w B3 H3 g3 r3 => q w B3 H3 (g2.trans g3) r3
  | false => cases e; exact q _ B2 H2 g2 (.bl false)
theorem eo_or (h1 : EvO ta σ B H oa) (h2 : EvO tb σ B H ob) : EvO (tOrV ta tb) σ B H (orV oa ob) := fun z e B1 H1 g Q q => by
  obtain ⟨x, ex, e⟩ := bind_some e
  obtain ⟨y, ey, ex⟩ := bind_some ex
  cases y <;> cases ex
  refine h1 _ ey B1 H1 g _ fun v B2 H2 g2 r => ?_
  cases r
  refine ⟨x, rfl, ?_⟩
  cases x with
  | false => exact h2 z e B2 H2 (g.trans g2) Q fun w B3 H3 g3 r3 => q w B3 H3 (g2.trans g3) r3
  | true => cases e; exact q _ B2 H2 g2 (.bl true)
theorem eo_not (h1 : EvO ta σ B H oa) : EvO (tNotV ta) σ B H (notV oa) := fun z e B1 H1 g Q q => by
  obtain ⟨x, ex, e⟩ := map_some e
  obtain ⟨y, ey, ex⟩ := bind_some ex
  cases y <;> cases ex
  subst e
  refine h1 _ ey B1 H1 g _ fun v B2 H2 g2 r => ?_
  cases r
  exact ⟨x, rfl, q _ B2 H2 g2 (.bl _)⟩
theorem eo_if {c : Option Bool} (h : EvT t σ B H c) (h1 : EvO ta σ B H oa) (h2 : EvO tb σ B H ob) : EvO (tIf t ta tb) σ B H (ifO c oa ob) := fun z e B1 H1 g Q q => by
  obtain ⟨x, ex, e⟩ := bind_some e
  refine h x ex B1 H1 g _ fun B2 H2 g2 => ?_
  cases x with
  | true => exact h1 z e B2 H2 (g.trans g2) Q fun w B3 H3 g3 r3 => q w B3 H3 (g2.trans g3) r3
  | false => exact h2 z e B2 H2 (g.trans g2) Q fun w B3 H3 g3 r3 => q w B3 H3 (g2.trans g3) r3
/-! ### arguments, displays -/
theorem ea_nil : EvA tNil σ B H (some []) := fun z e B1 H1 g _ q => by cases e; exact q _ B1 H1 (Go.refl g.bh) .nil
theorem ea_cons {tr : TA} {ol : Option (List U)} (h : EvO ta σ B H oa) (hr : EvA tr σ B H ol) : EvA (tCons ta tr) σ B H (consO oa ol) := fun z e B1 H1 g _ q => by
  obtain ⟨x, ex, e⟩ := bind_some e
  obtain ⟨r, er, e⟩ := map_some e
  subst e
  exact h x ex B1 H1 g _ fun v B2 H2 g2 r2 => hr r er B2 H2 (g.trans g2) _ fun vs B3 H3 g3 r3 => q _ B3 H3 (g2.trans g3) (.cons (r2.up g3) r3)
/-- a length that every list of the text keeps below -/
def lim : Nat := 100000
def tupO (o : Option (List U)) : Option U := o.bind fun xs => if xs.length ≤ lim then some (.tup xs) else none
def lstO (o : Option (List U)) : Option U := o.bind fun xs => if xs.length ≤ lim then some (.lst xs) else none
theorem lim_size {n : Nat} (h : n ≤ lim) : n ≤ sizeLine := Nat.le_trans h (by decide)
theorem lim_lt {n : Nat} (h : n ≤ lim) : n < sizeLine := Nat.lt_of_le_of_lt h (by decide)
theorem Rps.new {xs : List U} {vs : List V} (r : Rps B xs vs) (s : Same B H) {p : Addr} {o : HO} (hp : H p = none) : Rps (upd B p o) xs vs := r.up (Go.new s hp)
theorem eo_tup {tl : TA} {ol : Option (List U)} (h : EvA tl σ B H ol) : EvO (tTup tl) σ B H (tupO ol) := fun z e B1 H1 g Q q => by
  obtain ⟨x, ex, e⟩ := bind_some e
  split at e
  · rename_i hl
    cases e
    exact h x ex B1 H1 g _ fun vs B2 H2 g2 r => ⟨by rw [r.length]; exact lim_size hl, fun p hp => q _ _ _ (g2.trans (Go.new g2.bh hp)) (.tup upd_same (r.new g2.bh hp))⟩
  · cases e
theorem eo_lst {tl : TA} {ol : Option (List U)} (h : EvA tl σ B H ol) : EvO (tLst tl) σ B H (lstO ol) := fun z e B1 H1 g Q q => by
  obtain ⟨x, ex, e⟩ := bind_some e
  split at e
  · rename_i hl
    cases e
    exact h x ex B1 H1 g _ fun vs B2 H2 g2 r => ⟨by rw [r.length]; exact lim_size hl, fun p hp => q _ _ _ (g2.trans (Go.new g2.bh hp)) (.lst upd_same (r.new g2.bh hp))⟩
  · cases e
end
/-! ### the promise of a def -/
def spU (m : List U → Option U) : Sp := fun vs H Q _ => ∃ B xs r, Same B H ∧ Rps B xs vs ∧ m xs = some r ∧ ∀ v B2 H2, Go B H B2 H2 → Rp B2 r v → Q v H2
theorem eo_call {σ : St} {B H : Hp} {tl : TA} {ol : Option (List U)} {m : List U → Option U} {E : XK} (h : EvA tl σ B H ol) : EvO (tCall (spU m) [] E tl) σ B H (ol.bind m) := fun z e B1 H1 g Q q => by
  obtain ⟨x, ex, e⟩ := bind_some e
  refine h x ex B1 H1 g _ fun vs B2 H2 g2 r => ?_
  show spU m (vs ++ []) H2 Q E
  rw [List.append_nil]
  exact ⟨B2, x, z, g2.bh, r, e, fun v B3 H3 g3 r3 => q v B3 H3 (g2.trans g3) r3⟩
end Dn
set_option Elab.async false
set_option linter.all false
set_option maxRecDepth 100000
set_option maxHeartbeats 2000000
namespace Dn
open PySem L2
variable [CTab]
/-! ### == of data -/
def U.plain : U → Bool
  | .non | .bl _ | .int _ | .str _ | .tup _ | .lst _ => true
  | _ => false
def eqK : U → U → Option Bool
  | .non, .non => some true
  | .bl a, .bl b => some (a == b)
  | .bl a, .int b => some ((if a then 1 else 0) == b)
  | .int a, .bl b => some (a == (if b then 1 else 0))
  | .int a, .int b => some (a == b)
  | .str a, .str b => some (a == b)
  | .tup _, .tup _ => none
  | .lst _, .lst _ => none
  | x, y => if (x.plain && y.plain) = true then some false else none
def allO (f : U → U → Option Bool) : List U → List U → Option Bool
  | x :: xs, y :: ys => (f x y).bind fun a => (allO f xs ys).map fun b => a && b
  | _, _ => some true
def eqO : Nat → U → U → Option Bool
  | 0, _, _ => none
  | n + 1, .tup xs, .tup ys => (allO (eqO n) xs ys).map fun b => b && (xs.length == ys.length)
  | n + 1, .lst xs, .lst ys => if xs.length = ys.length then allO (eqO n) xs ys else some false
  | n + 1, .frl xs, .lst ys => if xs.length = ys.length then allO (eqO n) xs ys else some false
  | n + 1, .lst xs, .frl ys => if xs.length = ys.length then allO (eqO n) xs ys else some false
  | _ + 1, x, y => eqK x y
def nth (f : U → U → Option Bool) (xs ys : List U) (j : Nat) : Bool := ((xs[j]?.bind fun x => ys[j]?.bind fun y => f x y).getD true)
theorem allO_nth {f : U → U → Option Bool} : ∀ {xs ys : List U} {b : Bool}, allO f xs ys = some b →
    (∀ (j : Nat) x y, xs[j]? = some x → ys[j]? = some y → f x y = some (nth f xs ys j)) ∧ (List.range (min xs.length ys.length)).all (nth f xs ys) = b
  | [], ys, b, h => by
    cases h
    exact ⟨fun j x y e => by simp at e, by simp⟩
  | x :: xs, [], b, h => by
    cases h
    exact ⟨fun j x y e e2 => by simp at e2, by simp⟩
  | x :: xs, y :: ys, b, h => by
    obtain ⟨a, ea, h⟩ := bind_some h
    obtain ⟨c, ec, h⟩ := map_some h
    obtain ⟨i1, i2⟩ := allO_nth ec
    refine ⟨fun j x' y' e1 e2 => ?_, ?_⟩
    · cases j with
      | zero =>
        simp at e1 e2
        subst e1 e2
        simp [nth, ea]
      | succ j =>
        have := i1 j x' y' (by simpa using e1) (by simpa using e2)
        simpa [nth] using this
    · rw [List.length_cons, List.length_cons, Nat.succ_min_succ, List.range_succ_eq_map, List.all_cons, List.all_map, ← h, ← i2]
      have e0 : nth f (x :: xs) (y :: ys) 0 = a := by simp [nth, ea]
      rw [e0]
      have e1 : (nth f (x :: xs) (y :: ys) ∘ Nat.succ) = nth f xs ys := by
        funext j
        simp [nth]
      rw [e1]
mutual
theorem Rp.inj {B : Hp} : ∀ {x y : U} {v : V}, Rp B x v → Rp B y v → x = y
  | _, _, _, .non, h => by cases h; rfl
  | _, _, _, .bl b, h => by cases h; rfl
  | _, _, _, .int i, h => by cases h; rfl
  | _, _, _, .str i, h => by cases h; rfl
  | _, _, _, .tup e r, h => by
    cases h with
    | tup e' r' => rw [e] at e'; cases e'; rw [Rps.inj r r']
    | lst e' r' => rw [e] at e'; cases e'
    | frl e' _ => rw [e] at e'; cases e'
    | dic e' r' => rw [e] at e'; cases e'
    | dit e' r' => rw [e] at e'; cases e'
    | tpd e' _ r' => rw [e] at e'; cases e'
    | obj e' _ r' => rw [e] at e'; cases e'
  | _, _, _, .tpd e _ r, h => by
    cases h with
    | tup e' r' => rw [e] at e'; cases e'
    | tpd e' _ r' => rw [e] at e'; cases e'; rw [Rps.inj r r']
    | lst e' r' => rw [e] at e'; cases e'
    | frl e' _ => rw [e] at e'; cases e'
    | dic e' r' => rw [e] at e'; cases e'
    | dit e' r' => rw [e] at e'; cases e'
    | obj e' _ r' => rw [e] at e'; cases e'
  | _, _, _, .lst e r, h => by
    cases h with
    | tup e' r' => rw [e] at e'; cases e'
    | lst e' r' => rw [e] at e'; cases e'; rw [Rps.inj r r']
    | frl e' _ => rw [e] at e'; cases e'
    | dic e' r' => rw [e] at e'; cases e'
    | dit e' r' => rw [e] at e'; cases e'
    | tpd e' _ r' => rw [e] at e'; cases e'
    | obj e' _ r' => rw [e] at e'; cases e'
  | _, _, _, .frl e r, h => by
    cases h with
    | tup e' r' => rw [e] at e'; cases e'
    | lst e' r' => rw [e] at e'; cases e'
    | frl e' r' => rw [e] at e'; cases e'; rw [Rps.inj r r']
    | dic e' r' => rw [e] at e'; cases e'
    | dit e' r' => rw [e] at e'; cases e'
    | tpd e' _ r' => rw [e] at e'; cases e'
    | obj e' _ r' => rw [e] at e'; cases e'
  | _, _, _, .dic e r, h => by
    cases h with
    | tup e' r' => rw [e] at e'; cases e'
    | lst e' r' => rw [e] at e'; cases e'
    | frl e' _ => rw [e] at e'; cases e'
    | dic e' r' => rw [e] at e'; cases e'; rw [Rpk.inj r r']
    | dit e' r' => rw [e] at e'; cases e'
    | tpd e' _ r' => rw [e] at e'; cases e'
    | obj e' _ r' => rw [e] at e'; cases e'
  | _, _, _, .dit e r, h => by
    cases h with
    | tup e' r' => rw [e] at e'; cases e'
    | lst e' r' => rw [e] at e'; cases e'
    | frl e' _ => rw [e] at e'; cases e'
    | dit e' r' => rw [e] at e'; cases e'; rw [Rpt.inj r r']
    | tpd e' _ r' => rw [e] at e'; cases e'
    | dic e' r' => rw [e] at e'; cases e'
    | obj e' _ r' => rw [e] at e'; cases e'
  | _, _, _, .obj e _ r, h => by
    cases h with
    | tup e' r' => rw [e] at e'; cases e'
    | lst e' r' => rw [e] at e'; cases e'
    | frl e' _ => rw [e] at e'; cases e'
    | dic e' r' => rw [e] at e'; cases e'
    | dit e' r' => rw [e] at e'; cases e'
    | tpd e' _ r' => rw [e] at e'; cases e'
    | obj e' _ r' =>
      rw [e] at e'
      injection e' with e'
      injection e' with e1 e2 e3
      subst e3
      rw [Rpf.inj r r', CTab.inj _ _ e1]
theorem Rps.inj {B : Hp} : ∀ {x y : List U} {v : List V}, Rps B x v → Rps B y v → x = y
  | _, _, _, .nil, h => by cases h; rfl
  | _, _, _, .cons r t, h => by cases h with | cons r' t' => rw [Rp.inj r r', Rps.inj t t']
theorem Rpk.inj {B : Hp} : ∀ {x y : List (Key × U)} {v : List (Key × V)}, Rpk B x v → Rpk B y v → x = y
  | _, _, _, .nil, h => by cases h; rfl
  | _, _, _, .cons r t, h => by cases h with | cons r' t' => rw [Rp.inj r r', Rpk.inj t t']
theorem Rpt.inj {B : Hp} : ∀ {x y : List (List Key × U)} {v : List (List Key × V)}, Rpt B x v → Rpt B y v → x = y
  | _, _, _, .nil, h => by cases h; rfl
  | _, _, _, .cons r t, h => by cases h with | cons r' t' => rw [Rp.inj r r', Rpt.inj t t']
theorem Rpf.inj {B : Hp} : ∀ {x y : List (Str × U)} {v : List (Str × V)}, Rpf B x v → Rpf B y v → x = y
  | _, _, _, .nil, h => by cases h; rfl
  | _, _, _, .cons r t, h => by cases h with | cons r' t' => rw [Rp.inj r r', Rpf.inj t t']
end
theorem allO_same {f : U → U → Option Bool} (hf : ∀ x b, f x x = some b → b = true) : ∀ {xs : List U} {b : Bool}, allO f xs xs = some b → b = true
  | [], b, h => by cases h; rfl
  | x :: xs, b, h => by
    obtain ⟨a, ea, h⟩ := bind_some h
    obtain ⟨c, ec, h⟩ := map_some h
    rw [← h, hf x a ea, allO_same hf ec]
    rfl
theorem eqO_same : ∀ (n : Nat) (x : U) (b : Bool), eqO n x x = some b → b = true
  | 0, _, _, h => by cases h
  | n + 1, .tup xs, b, h => by
    obtain ⟨c, ec, h⟩ := map_some h
    rw [← h, allO_same (eqO_same n) ec]
    simp
  | n + 1, .lst xs, b, h => by
    have h : (if xs.length = xs.length then allO (eqO n) xs xs else some false) = some b := h
    rw [if_pos rfl] at h
    exact allO_same (eqO_same n) h
  | _ + 1, .non, b, h => by cases h; rfl
  | _ + 1, .bl a, b, h => by
    have h : some (a == a) = some b := h
    rw [← Option.some.inj h]; simp
  | _ + 1, .int a, b, h => by
    have h : some (a == a) = some b := h
    rw [← Option.some.inj h]; simp
  | _ + 1, .str a, b, h => by
    have h : some (a == a) = some b := h
    rw [← Option.some.inj h]; simp
  | _ + 1, .frl _, b, h => by cases h
  | _ + 1, .dic _, b, h => by cases h
  | _ + 1, .dit _, b, h => by cases h
  | _ + 1, .tpd _, b, h => by cases h
  | _ + 1, .obj _ _, b, h => by cases h
/-! ### what the heap has of plain data -/
section
variable {X : Cx} {pins : List (Addr × Obj)} {σ : St} {H : Hp} {s : Shared}
theorem lst_heapQ (I : Inv X pins σ H s) {xs : List U} {a : Addr} {vs : List V} (h : SqL X.K H a vs) (r : Rps H xs vs) : ∃ its : List Value, s.heap.IsList a its.toArray ∧ its.length = xs.length ∧ ∀ (j : Nat) (hj : j < its.length), ∃ x v, xs[j]? = some x ∧ Rp H x v ∧ RelV v its[j] := by
  obtain ⟨its, rv, pl, _⟩ := I.list h
  refine ⟨its, pl.isList, by rw [← rv.length, r.length], fun j hj => ?_⟩
  have hj' : j < vs.length := by rw [rv.length]; exact hj
  obtain ⟨x, ex, rx⟩ := r.back (List.getElem?_eq_getElem hj')
  obtain ⟨u, eu, ru⟩ := rv.get (List.getElem?_eq_getElem hj')
  rw [List.getElem?_eq_getElem hj] at eu
  cases eu
  exact ⟨x, _, ex, rx, ru⟩
theorem lst_heap (I : Inv X pins σ H s) {xs : List U} {a : Addr} {vs : List V} (h : H a = some (.lst vs)) (r : Rps H xs vs) : ∃ its : List Value, s.heap.IsList a its.toArray ∧ its.length = xs.length ∧ ∀ (j : Nat) (hj : j < its.length), ∃ x v, xs[j]? = some x ∧ Rp H x v ∧ RelV v its[j] := lst_heapQ I (SqL.of h) r
theorem tup_heap (I : Inv X pins σ H s) {xs : List U} {a : Addr} {vs : List V} (h : H a = some (.tup vs)) (r : Rps H xs vs) : ∃ its : List Value, s.heap.IsTuple a its.toArray ∧ its.length = xs.length ∧ ∀ (j : Nat) (hj : j < its.length), ∃ x v, xs[j]? = some x ∧ Rp H x v ∧ RelV v its[j] := by
  obtain ⟨its, rv, pl, _⟩ := I.tuple (SqT.of h)
  refine ⟨its, pl, by rw [← rv.length, r.length], fun j hj => ?_⟩
  have hj' : j < vs.length := by rw [rv.length]; exact hj
  obtain ⟨x, ex, rx⟩ := r.back (List.getElem?_eq_getElem hj')
  obtain ⟨u, eu, ru⟩ := rv.get (List.getElem?_eq_getElem hj')
  rw [List.getElem?_eq_getElem hj] at eu
  cases eu
  exact ⟨x, _, ex, rx, ru⟩
open PySem.SeqAt
theorem eqK_rc (I : Inv X pins σ H s) {A : Around} {x y : U} {b : Bool} {v w : V} {p q : Value} (h : eqK x y = some b) (rx : Rp H x v) (ry : Rp H y w) (rv : RelV v p) (rw' : RelV w q) (hu : A.units < cLine) : RcAt A s p q b := by
  cases rx with
  | non =>
    cases rv
    cases ry with
    | non => cases rw'; cases h; exact RcAt.none_none
    | bl y => cases rw'; cases h; exact RcAt.none_bool y
    | int y => obtain ⟨t, rfl⟩ := rw'; cases h; exact RcAt.none_int y t
    | str y => obtain ⟨t, rfl⟩ := rw'; cases h; exact RcAt.none_str y t
    | lst e r => cases rw'; cases h; obtain ⟨its, hl, _⟩ := lst_heap I e r; exact RcAt.none_list hl hu
    | tup e r => cases rw'; cases h; obtain ⟨its, hl, _⟩ := tup_heap I e r; exact RcAt.none_tuple hl hu
    | _ => cases h
  | bl x =>
    cases rv
    cases ry with
    | non => cases rw'; cases h; exact RcAt.bool_none x
    | bl y => cases rw'; cases h; exact RcAt.bool_bool x y
    | int y => obtain ⟨t, rfl⟩ := rw'; cases h; exact RcAt.bool_int x y t
    | str y => obtain ⟨t, rfl⟩ := rw'; cases h; exact RcAt.bool_str x y t
    | lst e r => cases rw'; cases h; obtain ⟨its, hl, _⟩ := lst_heap I e r; exact RcAt.bool_list x hl hu
    | tup e r => cases rw'; cases h; obtain ⟨its, hl, _⟩ := tup_heap I e r; exact RcAt.bool_tuple x hl hu
    | _ => cases h
  | int x =>
    obtain ⟨t0, rfl⟩ := rv
    cases ry with
    | non => cases rw'; cases h; exact RcAt.int_none x t0
    | bl y => cases rw'; cases h; exact RcAt.int_bool x t0 y
    | int y => obtain ⟨t, rfl⟩ := rw'; cases h; exact RcAt.int_int x t0 y t
    | str y => obtain ⟨t, rfl⟩ := rw'; cases h; exact RcAt.int_str x t0 y t
    | lst e r => cases rw'; cases h; obtain ⟨its, hl, _⟩ := lst_heap I e r; exact RcAt.int_list x t0 hl hu
    | tup e r => cases rw'; cases h; obtain ⟨its, hl, _⟩ := tup_heap I e r; exact RcAt.int_tuple x t0 hl hu
    | _ => cases h
  | str x =>
    obtain ⟨t0, rfl⟩ := rv
    cases ry with
    | non => cases rw'; cases h; exact RcAt.str_none x t0
    | bl y => cases rw'; cases h; exact RcAt.str_bool x t0 y
    | int y => obtain ⟨t, rfl⟩ := rw'; cases h; exact RcAt.str_int x t0 y t
    | str y => obtain ⟨t, rfl⟩ := rw'; cases h; exact RcAt.str_str x t0 y t
    | lst e r => cases rw'; cases h; obtain ⟨its, hl, _⟩ := lst_heap I e r; exact RcAt.str_list x t0 hl hu
    | tup e r => cases rw'; cases h; obtain ⟨its, hl, _⟩ := tup_heap I e r; exact RcAt.str_tuple x t0 hl hu
    | _ => cases h
  | lst e0 r0 =>
    cases rv
    obtain ⟨its0, hl0, _⟩ := lst_heap I e0 r0
    cases ry with
    | non => cases rw'; cases h; exact RcAt.list_none hl0 hu
    | bl y => cases rw'; cases h; exact RcAt.list_bool y hl0 hu
    | int y => obtain ⟨t, rfl⟩ := rw'; cases h; exact RcAt.list_int y t hl0 hu
    | str y => obtain ⟨t, rfl⟩ := rw'; cases h; exact RcAt.list_str y t hl0 hu
    | tup e r => cases rw'; cases h; obtain ⟨its, hl, _⟩ := tup_heap I e r; exact RcAt.list_tuple hl0 hl hu
    | _ => cases h
  | tup e0 r0 =>
    cases rv
    obtain ⟨its0, hl0, _⟩ := tup_heap I e0 r0
    cases ry with
    | non => cases rw'; cases h; exact RcAt.tuple_none hl0 hu
    | bl y => cases rw'; cases h; exact RcAt.tuple_bool y hl0 hu
    | int y => obtain ⟨t, rfl⟩ := rw'; cases h; exact RcAt.tuple_int y t hl0 hu
    | str y => obtain ⟨t, rfl⟩ := rw'; cases h; exact RcAt.tuple_str y t hl0 hu
    | lst e r => cases rw'; cases h; obtain ⟨its, hl, _⟩ := lst_heap I e r; exact RcAt.tuple_list hl0 hl hu
    | _ => cases h
  | frl _ _ => cases ry <;> cases h
  | dic _ _ => cases ry <;> cases h
  | dit _ _ => cases ry <;> cases h
  | tpd _ _ _ => cases ry <;> cases h
  | obj _ _ _ => cases ry <;> cases h
theorem eqK_ne (I : Inv X pins σ H s) {A : Around} {x y : U} {b : Bool} {v w : V} {p q : Value} (h : eqK x y = some b) (rx : Rp H x v) (ry : Rp H y w) (rv : RelV v p) (rw' : RelV w q) (hu : A.units < cLine) : RcNeAt A s p q (!b) := by
  cases rx with
  | non =>
    cases rv
    cases ry with
    | non => cases rw'; cases h; exact RcNeAt.none_none
    | bl y => cases rw'; cases h; exact RcNeAt.none_bool y
    | int y => obtain ⟨t, rfl⟩ := rw'; cases h; exact RcNeAt.none_int y t
    | str y => obtain ⟨t, rfl⟩ := rw'; cases h; exact RcNeAt.none_str y t
    | lst e r => cases rw'; cases h; obtain ⟨its, hl, _⟩ := lst_heap I e r; exact RcNeAt.none_list hl hu
    | tup e r => cases rw'; cases h; obtain ⟨its, hl, _⟩ := tup_heap I e r; exact RcNeAt.none_tuple hl hu
    | _ => cases h
  | bl x =>
    cases rv
    cases ry with
    | non => cases rw'; cases h; exact RcNeAt.bool_none x
    | bl y => cases rw'; cases h; exact RcNeAt.bool_bool x y
    | int y => obtain ⟨t, rfl⟩ := rw'; cases h; exact RcNeAt.bool_int x y t
    | str y => obtain ⟨t, rfl⟩ := rw'; cases h; exact RcNeAt.bool_str x y t
    | lst e r => cases rw'; cases h; obtain ⟨its, hl, _⟩ := lst_heap I e r; exact RcNeAt.bool_list x hl hu
    | tup e r => cases rw'; cases h; obtain ⟨its, hl, _⟩ := tup_heap I e r; exact RcNeAt.bool_tuple x hl hu
    | _ => cases h
  | int x =>
    obtain ⟨t0, rfl⟩ := rv
    cases ry with
    | non => cases rw'; cases h; exact RcNeAt.int_none x t0
    | bl y => cases rw'; cases h; exact RcNeAt.int_bool x t0 y
    | int y => obtain ⟨t, rfl⟩ := rw'; cases h; exact RcNeAt.int_int x t0 y t
    | str y => obtain ⟨t, rfl⟩ := rw'; cases h; exact RcNeAt.int_str x t0 y t
    | lst e r => cases rw'; cases h; obtain ⟨its, hl, _⟩ := lst_heap I e r; exact RcNeAt.int_list x t0 hl hu
    | tup e r => cases rw'; cases h; obtain ⟨its, hl, _⟩ := tup_heap I e r; exact RcNeAt.int_tuple x t0 hl hu
    | _ => cases h
  | str x =>
    obtain ⟨t0, rfl⟩ := rv
    cases ry with
    | non => cases rw'; cases h; exact RcNeAt.str_none x t0
    | bl y => cases rw'; cases h; exact RcNeAt.str_bool x t0 y
    | int y => obtain ⟨t, rfl⟩ := rw'; cases h; exact RcNeAt.str_int x t0 y t
    | str y => obtain ⟨t, rfl⟩ := rw'; cases h; exact RcNeAt.str_str x t0 y t
    | lst e r => cases rw'; cases h; obtain ⟨its, hl, _⟩ := lst_heap I e r; exact RcNeAt.str_list x t0 hl hu
    | tup e r => cases rw'; cases h; obtain ⟨its, hl, _⟩ := tup_heap I e r; exact RcNeAt.str_tuple x t0 hl hu
    | _ => cases h
  | lst e0 r0 =>
    cases rv
    obtain ⟨its0, hl0, _⟩ := lst_heap I e0 r0
    cases ry with
    | non => cases rw'; cases h; exact RcNeAt.list_none hl0 hu
    | bl y => cases rw'; cases h; exact RcNeAt.list_bool y hl0 hu
    | int y => obtain ⟨t, rfl⟩ := rw'; cases h; exact RcNeAt.list_int y t hl0 hu
    | str y => obtain ⟨t, rfl⟩ := rw'; cases h; exact RcNeAt.list_str y t hl0 hu
    | tup e r => cases rw'; cases h; obtain ⟨its, hl, _⟩ := tup_heap I e r; exact RcNeAt.list_tuple hl0 hl hu
    | _ => cases h
  | tup e0 r0 =>
    cases rv
    obtain ⟨its0, hl0, _⟩ := tup_heap I e0 r0
    cases ry with
    | non => cases rw'; cases h; exact RcNeAt.tuple_none hl0 hu
    | bl y => cases rw'; cases h; exact RcNeAt.tuple_bool y hl0 hu
    | int y => obtain ⟨t, rfl⟩ := rw'; cases h; exact RcNeAt.tuple_int y t hl0 hu
    | str y => obtain ⟨t, rfl⟩ := rw'; cases h; exact RcNeAt.tuple_str y t hl0 hu
    | lst e r => cases rw'; cases h; obtain ⟨its, hl, _⟩ := lst_heap I e r; exact RcNeAt.tuple_list hl0 hl hu
    | _ => cases h
  | frl _ _ => cases ry <;> cases h
  | dic _ _ => cases ry <;> cases h
  | dit _ _ => cases ry <;> cases h
  | tpd _ _ _ => cases ry <;> cases h
  | obj _ _ _ => cases ry <;> cases h
end
end Dn
set_option Elab.async false
set_option linter.all false
set_option maxRecDepth 100000
set_option maxHeartbeats 2000000
namespace Dn
open PySem L2 PySem.SeqAt
variable [CTab]
section
variable {X : Cx} {pins : List (Addr × Obj)} {σ : St} {H : Hp} {s : Shared}
theorem eq_at {A : Around} {n : Nat} {x y : U} {b : Bool} {v w : V} {p q : Value} (h : eqO n x y = some b) (rx : Rp H x v) (ry : Rp H y w) (rv : RelV v p) (rw' : RelV w q) (rc : RcAt A s p q b) : EqAt A s p q b := by
  by_cases e : p = q
  · subst e
    have e1 : v = w := rv.inj rw'
    subst e1
    have e2 := rx.inj ry
    subst e2
    rw [eqO_same n x b h]
    exact EqAt.same _
  · have shape : ∀ {u : U} {v : V} {p : Value}, Rp H u v → RelV v p → p = .none ∨ (∃ b, p = .bool b) ∨ (∃ i t, p = .int i t) ∨ (∃ i t, p = .str i t) ∨ ∃ a, p = .ref a := fun {u v p} r rv => by
      cases r with
      | non => exact .inl rv
      | bl b => exact .inr (.inl ⟨_, rv⟩)
      | int i => exact .inr (.inr (.inl ⟨_, rv⟩))
      | str i => exact .inr (.inr (.inr (.inl ⟨_, rv⟩)))
      | _ => exact .inr (.inr (.inr (.inr ⟨_, rv⟩)))
    intro prog w E Q hq
    unfold eqBool
    refine wpAny_holding ?_
    refine wpAny_ite_split (fun hab => absurd (eq_of_beq hab) e) (fun _ => ?_)
    rcases shape rx rv with rfl | ⟨_, rfl⟩ | ⟨_, _, rfl⟩ | ⟨_, _, rfl⟩ | ⟨_, rfl⟩ <;> exact wpAny_bind (rc prog w E _ (wpAny_truthy_bool hq))
theorem eq_lists (I : Inv X pins σ H s) {n : Nat} {A : Around} {xs ys : List U} {b : Bool} {a a' : Addr} {vs ws : List V} (hu0 : A.units < cLine)
    (ih : ∀ {x y : U} {b : Bool} {v w : V} {p q : Value}, eqO n x y = some b → Rp H x v → Rp H y w → RelV v p → RelV w q → RcAt A.in1 s p q b)
    (e : SqL X.K H a vs) (r : Rps H xs vs) (e' : SqL X.K H a' ws) (r' : Rps H ys ws) (h : (if xs.length = ys.length then allO (eqO n) xs ys else some false) = some b) : RcAt A s (.ref a) (.ref a') b ∧ RcNeAt A s (.ref a) (.ref a') (!b) := by
  obtain ⟨its, hl, hn, hi⟩ := lst_heapQ I e r
  obtain ⟨its', hl', hn', hi'⟩ := lst_heapQ I e' r'
  by_cases hz : xs.length = ys.length
  · rw [if_pos hz] at h
    obtain ⟨n1, n2⟩ := allO_nth h
    have he : ∀ j (h1 : j < its.toArray.size) (h2 : j < its'.toArray.size), EqAt A.in1 s its.toArray[j] its'.toArray[j] (nth (eqO n) xs ys j) := fun j h1 h2 => by
      obtain ⟨x1, v1, e1, r1, rv1⟩ := hi j (by simpa using h1)
      obtain ⟨x2, v2, e2, r2, rv2⟩ := hi' j (by simpa using h2)
      have := eq_at (n1 j x1 x2 e1 e2) r1 r2 rv1 rv2 (ih (n1 j x1 x2 e1 e2) r1 r2 rv1 rv2)
      simpa using this
    have eb : (List.range its.toArray.size).all (nth (eqO n) xs ys) = b := by
      rw [← n2]
      simp only [List.size_toArray, hn, hz, Nat.min_self]
    have hsz : its.toArray.size = its'.toArray.size := by simp [hn, hn', hz]
    rw [← eb]
    exact ⟨RcAt.lists hl hl' hsz hu0 he, RcNeAt.lists hl hl' hsz hu0 he⟩
  · rw [if_neg hz] at h
    cases h
    have hsz : (its.toArray.size != its'.toArray.size) = true := by simp [hn, hn', hz]
    exact ⟨RcAt.lists_lengths hl hl' hsz hu0, RcNeAt.lists_lengths hl hl' hsz hu0⟩
theorem eq_rc (I : Inv X pins σ H s) : ∀ (n : Nat) {A : Around} {x y : U} {b : Bool} {v w : V} {p q : Value}, eqO n x y = some b → Rp H x v → Rp H y w → RelV v p → RelV w q → A.units + n < cLine → RcAt A s p q b ∧ RcNeAt A s p q (!b)
  | 0, _, _, _, _, _, _, _, _, h, _, _, _, _, _ => by cases h
  | n + 1, A, x, y, b, v, w, p, q, h, rx, ry, rv, rw', hu => by
    have hu0 : A.units < cLine := by omega
    have hu1 : A.in1.units + n < cLine := by show A.units + 1 + n < cLine; omega
    by_cases hk : eqK x y = some b
    · exact ⟨eqK_rc I hk rx ry rv rw' hu0, eqK_ne I hk rx ry rv rw' hu0⟩
    · cases rx with
      | @tup a xs vs e r =>
        cases ry with
        | @tup a' ys ws e' r' =>
          cases rv; cases rw'
          obtain ⟨c, ec, h⟩ := map_some h
          obtain ⟨n1, n2⟩ := allO_nth ec
          obtain ⟨its, hl, hn, hi⟩ := tup_heap I e r
          obtain ⟨its', hl', hn', hi'⟩ := tup_heap I e' r'
          have he : ∀ j (h1 : j < its.toArray.size) (h2 : j < its'.toArray.size), EqAt A.in1 s its.toArray[j] its'.toArray[j] (nth (eqO n) xs ys j) := fun j h1 h2 => by
            obtain ⟨x1, v1, e1, r1, rv1⟩ := hi j (by simpa using h1)
            obtain ⟨x2, v2, e2, r2, rv2⟩ := hi' j (by simpa using h2)
            have := eq_at (n1 j x1 x2 e1 e2) r1 r2 rv1 rv2 (eq_rc I n (n1 j x1 x2 e1 e2) r1 r2 rv1 rv2 hu1).1
            simpa using this
          have eb : ((List.range (min its.toArray.size its'.toArray.size)).all (nth (eqO n) xs ys) && its.toArray.size == its'.toArray.size) = b := by
            rw [← h]
            simp only [List.size_toArray, hn, hn', n2]
          rw [← eb]
          exact ⟨RcAt.tuples hl hl' hu0 he, RcNeAt.tuples hl hl' hu0 he⟩
        | _ => exact absurd h hk
      | @lst a xs vs e r =>
        cases ry with
        | @lst a' ys ws e' r' =>
          cases rv; cases rw'
          exact eq_lists I hu0 (fun h1 h2 h3 h4 h5 => (eq_rc I n h1 h2 h3 h4 h5 hu1).1) (SqL.of e) r (SqL.of e') r' h
        | @frl a' ys ws o' e' r' =>
          cases rv; cases rw'
          exact eq_lists I hu0 (fun h1 h2 h3 h4 h5 => (eq_rc I n h1 h2 h3 h4 h5 hu1).1) (SqL.of e) r (.inl (.inr ⟨o', e'⟩)) r' h
        | _ => exact absurd h hk
      | @frl a xs vs o e r =>
        cases ry with
        | @lst a' ys ws e' r' =>
          cases rv; cases rw'
          exact eq_lists I hu0 (fun h1 h2 h3 h4 h5 => (eq_rc I n h1 h2 h3 h4 h5 hu1).1) (.inl (.inr ⟨o, e⟩)) r (SqL.of e') r' h
        | _ => exact absurd h hk
      | _ => cases ry <;> exact absurd h hk
end
/-- how deep data may lie -/
def dep : Nat := 40
def rEqU : R2 := fun x y H Q => ∃ u w b, Rp H u x ∧ Rp H w y ∧ eqO dep u w = some b ∧ Q (.bl b) H
def rNeU : R2 := fun x y H Q => ∃ u w b, Rp H u x ∧ Rp H w y ∧ eqO dep u w = some b ∧ Q (.bl (!b)) H
section
variable {X : Cx}
theorem op_eqU (hu : X.A.units + 64 < cLine) : OpR X (compareOp .Eq) rEqU := by
  intro pins s σ H x y v u Q I rx ry h
  obtain ⟨d, e, b, hd, he, hb, q⟩ := h
  exact (eq_rc I dep hb hd he rx ry (by unfold dep; omega)).1 _ _ _ _ ⟨.bl b, H, I, rfl, q⟩
theorem op_neU (hu : X.A.units + 64 < cLine) : OpR X (compareOp .NotEq) rNeU := by
  intro pins s σ H x y v u Q I rx ry h
  obtain ⟨d, e, b, hd, he, hb, q⟩ := h
  exact (eq_rc I dep hb hd he rx ry (by unfold dep; omega)).2 _ _ _ _ ⟨.bl _, H, I, rfl, q⟩
end
def eqV2 (x y : U) : Option U := (eqO dep x y).map U.bl
def neV2 (x y : U) : Option U := (eqO dep x y).map fun b => U.bl (!b)
theorem rv_eq : RV rEqU eqV2 := fun x y z e v w B H s rx ry Q q => by
  obtain ⟨b, eb, e⟩ := map_some e
  subst e
  exact ⟨x, y, b, rx.in s, ry.in s, eb, q _ B H (Go.refl s) (.bl b)⟩
theorem rv_ne : RV rNeU neV2 := fun x y z e v w B H s rx ry Q q => by
  obtain ⟨b, eb, e⟩ := map_some e
  subst e
  exact ⟨x, y, b, rx.in s, ry.in s, eb, q _ B H (Go.refl s) (.bl _)⟩
/-! ### x in xs -/
def inO (n : Nat) (x : U) : List U → Option Bool
  | [] => some false
  | y :: ys => (eqO n y x).bind fun a => (inO n x ys).map fun b => a || b
/-- lists and tuples -/
def U.seq : U → Option (List U)
  | .lst xs => some xs
  | .tup xs => some xs
  | .frl xs => some xs
  | _ => none
/-- .. and known tuples -/
def U.sqI : U → Option (List U)
  | .lst xs => some xs
  | .tup xs => some xs
  | .tpd xs => some xs
  | .frl xs => some xs
  | _ => none
section
variable {X : Cx} {pins : List (Addr × Obj)} {σ : St} {H : Hp} {s : Shared}
open Classical in
noncomputable def eqOf (H : Hp) (n : Nat) (x : U) (p : Value) : Bool := if ∃ y v, Rp H y v ∧ RelV v p ∧ eqO n y x = some true then true else false
theorem eqOf_is {n : Nat} {x y : U} {v : V} {p : Value} {b : Bool} (r : Rp H y v) (rv : RelV v p) (h : eqO n y x = some b) : eqOf H n x p = b := by
  unfold eqOf
  cases b with
  | true => rw [if_pos ⟨y, v, r, rv, h⟩]
  | false =>
    rw [if_neg]
    rintro ⟨y', v', r', rv', h'⟩
    have e1 : v = v' := rv.inj rv'
    subst e1
    have e2 := r.inj r'
    subst e2
    rw [h] at h'
    cases h'
theorem inO_any {n : Nat} {x : U} : ∀ {xs : List U} {vs : List V} {its : List Value} {b : Bool}, Rps H xs vs → Vals vs its → inO n x xs = some b →
    its.any (eqOf H n x) = b ∧ ∀ y ∈ its, ∃ u v c, Rp H u v ∧ RelV v y ∧ eqO n u x = some c ∧ eqOf H n x y = c
  | _, _, _, b, .nil, .nil, h => by cases h; exact ⟨rfl, fun y hy => nomatch hy⟩
  | _, _, _, b, .cons r t, .cons rv tv, h => by
    obtain ⟨a, ea, h⟩ := bind_some h
    obtain ⟨c, ec, h⟩ := map_some h
    obtain ⟨i1, i2⟩ := inO_any t tv ec
    refine ⟨?_, fun y hy => ?_⟩
    · rw [List.any_cons, i1, eqOf_is r rv ea, h]
    · rcases List.mem_cons.mp hy with e | hy
      · subst e
        exact ⟨_, _, a, r, rv, ea, eqOf_is r rv ea⟩
      · exact i2 y hy
end
def rInU (neg : Bool) : R2 := fun x y H Q => ∃ u w xs b, Rp H u x ∧ Rp H w y ∧ w.sqI = some xs ∧ inO dep u xs = some b ∧ Q (.bl (if neg then !b else b)) H
section
variable {X : Cx}
theorem op_inU (hu : X.A.units + 64 < cLine) : OpR X (compareOp .In) (rInU false) := by
  intro pins s σ H x y v u Q I rx ry h
  obtain ⟨d, e, xs, b, hd, he, hs, hb, q⟩ := h
  have room : X.A.in1.units + dep < cLine := by show X.A.units + 1 + dep < cLine; unfold dep; omega
  cases he with
  | lst h r =>
    cases hs; cases ry
    obtain ⟨its, rv, pl, _⟩ := I.list (SqL.of h)
    obtain ⟨i1, i2⟩ := inO_any r rv hb
    refine in_listAt (eqOf H dep d) pl.isList (fun y hy => ?_) ⟨.bl _, H, I, ?_, q⟩
    · obtain ⟨u1, v1, c, r1, rv1, e1, e2⟩ := i2 y (by simpa using hy)
      rw [e2]
      exact eq_at e1 r1 hd rv1 rx (eq_rc I dep e1 r1 hd rv1 rx room).1
    · show Value.bool _ = Value.bool _
      rw [← i1]
      simp
  | @frl _ _ _ o h r =>
    cases hs; cases ry
    obtain ⟨its, rv, pl, _⟩ := I.list (.inl (.inr ⟨o, h⟩))
    obtain ⟨i1, i2⟩ := inO_any r rv hb
    refine in_listAt (eqOf H dep d) pl.isList (fun y hy => ?_) ⟨.bl _, H, I, ?_, q⟩
    · obtain ⟨u1, v1, c, r1, rv1, e1, e2⟩ := i2 y (by simpa using hy)
      rw [e2]
      exact eq_at e1 r1 hd rv1 rx (eq_rc I dep e1 r1 hd rv1 rx room).1
    · show Value.bool _ = Value.bool _
      rw [← i1]
      simp
  | tup h r =>
    cases hs; cases ry
    obtain ⟨its, rv, pl, _⟩ := I.tuple (SqT.of h)
    obtain ⟨i1, i2⟩ := inO_any r rv hb
    refine in_tupleAt (eqOf H dep d) pl (fun y hy => ?_) ⟨.bl _, H, I, ?_, q⟩
    · obtain ⟨u1, v1, c, r1, rv1, e1, e2⟩ := i2 y (by simpa using hy)
      rw [e2]
      exact eq_at e1 r1 hd rv1 rx (eq_rc I dep e1 r1 hd rv1 rx room).1
    · show Value.bool _ = Value.bool _
      rw [← i1]
      simp
  | @tpd _ _ _ o h hdn r =>
    cases hs; cases ry
    obtain ⟨its, rv, pl, _⟩ := I.tuple (.inl (.inr ⟨o, h⟩))
    obtain ⟨i1, i2⟩ := inO_any r rv hb
    refine in_tupleAt (eqOf H dep d) pl (fun y hy => ?_) ⟨.bl _, H, I, ?_, q⟩
    · obtain ⟨u1, v1, c, r1, rv1, e1, e2⟩ := i2 y (by simpa using hy)
      rw [e2]
      exact eq_at e1 r1 hd rv1 rx (eq_rc I dep e1 r1 hd rv1 rx room).1
    · show Value.bool _ = Value.bool _
      rw [← i1]
      simp
  | _ => cases hs
theorem op_notInU (hu : X.A.units + 64 < cLine) : OpR X (compareOp .NotIn) (rInU true) := by
  intro pins s σ H x y v u Q I rx ry h
  obtain ⟨d, e, xs, b, hd, he, hs, hb, q⟩ := h
  have room : X.A.in1.units + dep < cLine := by show X.A.units + 1 + dep < cLine; unfold dep; omega
  cases he with
  | lst h r =>
    cases hs; cases ry
    obtain ⟨its, rv, pl, _⟩ := I.list (SqL.of h)
    obtain ⟨i1, i2⟩ := inO_any r rv hb
    refine notIn_listAt (eqOf H dep d) pl.isList (fun y hy => ?_) ⟨.bl _, H, I, ?_, q⟩
    · obtain ⟨u1, v1, c, r1, rv1, e1, e2⟩ := i2 y (by simpa using hy)
      rw [e2]
      exact eq_at e1 r1 hd rv1 rx (eq_rc I dep e1 r1 hd rv1 rx room).1
    · show Value.bool _ = Value.bool _
      rw [← i1]
      simp
  | @frl _ _ _ o h r =>
    cases hs; cases ry
    obtain ⟨its, rv, pl, _⟩ := I.list (.inl (.inr ⟨o, h⟩))
    obtain ⟨i1, i2⟩ := inO_any r rv hb
    refine notIn_listAt (eqOf H dep d) pl.isList (fun y hy => ?_) ⟨.bl _, H, I, ?_, q⟩
    · obtain ⟨u1, v1, c, r1, rv1, e1, e2⟩ := i2 y (by simpa using hy)
      rw [e2]
      exact eq_at e1 r1 hd rv1 rx (eq_rc I dep e1 r1 hd rv1 rx room).1
    · show Value.bool _ = Value.bool _
      rw [← i1]
      simp
  | tup h r =>
    cases hs; cases ry
    obtain ⟨its, rv, pl, _⟩ := I.tuple (SqT.of h)
    obtain ⟨i1, i2⟩ := inO_any r rv hb
    refine notIn_tupleAt (eqOf H dep d) pl (fun y hy => ?_) ⟨.bl _, H, I, ?_, q⟩
    · obtain ⟨u1, v1, c, r1, rv1, e1, e2⟩ := i2 y (by simpa using hy)
      rw [e2]
      exact eq_at e1 r1 hd rv1 rx (eq_rc I dep e1 r1 hd rv1 rx room).1
    · show Value.bool _ = Value.bool _
      rw [← i1]
      simp
  | @tpd _ _ _ o h hdn r =>
    cases hs; cases ry
    obtain ⟨its, rv, pl, _⟩ := I.tuple (.inl (.inr ⟨o, h⟩))
    obtain ⟨i1, i2⟩ := inO_any r rv hb
    refine notIn_tupleAt (eqOf H dep d) pl (fun y hy => ?_) ⟨.bl _, H, I, ?_, q⟩
    · obtain ⟨u1, v1, c, r1, rv1, e1, e2⟩ := i2 y (by simpa using hy)
      rw [e2]
      exact eq_at e1 r1 hd rv1 rx (eq_rc I dep e1 r1 hd rv1 rx room).1
    · show Value.bool _ = Value.bool _
      rw [← i1]
      simp
  | _ => cases hs
end
end Dn
set_option Elab.async false
set_option linter.all false
set_option maxRecDepth 100000
set_option maxHeartbeats 2000000
namespace Dn
open PySem L2
variable [CTab]
/-! ### + - * // % ** -->  -/
def rAddU (K : PySem.W.Frag) : R2 := fun x y H Q => rI0 (fun i j => .int (i + j)) x y H Q ∨ (∃ i j, x = .str i ∧ y = .str j ∧ i.length + j.length ≤ sizeLine ∧ Q (.str (i ++ j)) H) ∨ rCat x y H Q ∨ rCatA K x y H Q
def rMulU : R2 := fun x y H Q => rI CMul (fun i j => .int (i * j)) x y H Q ∨ rRep x y H Q
section
variable {X : Cx}
theorem op_addU : OpR X (binaryOp .Add) (rAddU X.K) := op_add.or (op_add_str.or (op_cat.or op_catA))
theorem op_mulU : OpR X (binaryOp .Mult) rMulU := op_mul.or op_rep
end
def addV : U → U → Option U
  | .int i, .int j => some (.int (i + j))
  | .str i, .str j => if i.length + j.length ≤ lim then some (.str (i ++ j)) else none
  | .lst xs, .lst ys => if xs.length + ys.length ≤ lim then some (.lst (xs ++ ys)) else none
  | .tup xs, .tup ys => if xs.length + ys.length ≤ lim then some (.tup (xs ++ ys)) else none
  | _, _ => none
theorem rv_add {K : PySem.W.Frag} : RV (rAddU K) addV := fun x y z e v w B H s rx ry Q q => by
  cases rx with
  | int i =>
    cases ry with
    | int j => cases e; exact .inl ⟨i, j, rfl, rfl, q _ B H (Go.refl s) (.int _)⟩
    | _ => cases e
  | str i =>
    cases ry with
    | str j =>
      have e : (if i.length + j.length ≤ lim then some (U.str (i ++ j)) else none) = some z := e
      split at e
      · rename_i hl
        cases e; exact .inr (.inl ⟨i, j, rfl, rfl, lim_size hl, q _ B H (Go.refl s) (.str _)⟩)
      · cases e
    | _ => cases e
  | @lst a xs vs h r =>
    cases ry with
    | @lst b ys ws h' r' =>
      have e : (if xs.length + ys.length ≤ lim then some (U.lst (xs ++ ys)) else none) = some z := e
      split at e
      · rename_i hl
        cases e
        refine .inr (.inr (.inl ⟨a, b, vs, ws, rfl, rfl, s _ _ h, s _ _ h', ?_, fun p hp => q _ _ _ (Go.new s hp) (.lst upd_same ((r.append r').new s hp))⟩))
        rw [r.length, r'.length]; exact lim_size hl
      · cases e
    | _ => cases e
  | @tup a xs vs h r =>
    cases ry with
    | @tup b ys ws h' r' =>
      have e : (if xs.length + ys.length ≤ lim then some (U.tup (xs ++ ys)) else none) = some z := e
      split at e
      · rename_i hl
        cases e
        refine .inr (.inr (.inr ⟨a, b, vs, ws, rfl, rfl, SqT.of (s _ _ h), SqT.of (s _ _ h'), ?_, fun hv => ?_, fun _ hw => ?_, fun _ _ p hp => q _ _ _ (Go.new s hp) (.tup upd_same ((r.append r').new s hp))⟩))
        · rw [r.length, r'.length]; exact lim_size hl
        · subst hv; cases r; exact q _ B H (Go.refl s) (.tup h' r')
        · subst hw; cases r'; rw [List.append_nil] at q; exact q _ B H (Go.refl s) (.tup h r)
      · cases e
    | _ => cases e
  | _ => cases e
def mulV : U → U → Option U
  | .int i, .int j => if (-(2 ^ 64) < i ∧ i < 2 ^ 64) ∨ (-(2 ^ 64) < j ∧ j < 2 ^ 64) then some (.int (i * j)) else none
  | .lst xs, .int j => if 0 ≤ j ∧ j ≤ 1000 ∧ xs.length * j.toNat ≤ lim then some (.lst (List.replicate j.toNat xs).flatten) else none
  | _, _ => none
theorem Rps.flat {B : Hp} {xs : List U} {vs : List V} (r : Rps B xs vs) : ∀ n : Nat, Rps B (List.replicate n xs).flatten (List.replicate n vs).flatten
  | 0 => .nil
  | n + 1 => by
    rw [List.replicate_succ, List.replicate_succ, List.flatten_cons, List.flatten_cons]
    exact r.append (Rps.flat r n)
theorem rv_mul : RV rMulU mulV := fun x y z e v w B H s rx ry Q q => by
  cases rx with
  | int i =>
    cases ry with
    | int j =>
      have e : (if (-(2 ^ 64) < i ∧ i < 2 ^ 64) ∨ (-(2 ^ 64) < j ∧ j < 2 ^ 64) then some (U.int (i * j)) else none) = some z := e
      split at e
      · rename_i hl
        cases e; exact .inl ⟨i, j, rfl, rfl, hl, q _ B H (Go.refl s) (.int _)⟩
      · cases e
    | _ => cases e
  | @lst a xs vs h r =>
    cases ry with
    | int j =>
      have e : (if 0 ≤ j ∧ j ≤ 1000 ∧ xs.length * j.toNat ≤ lim then some (U.lst (List.replicate j.toNat xs).flatten) else none) = some z := e
      split at e
      · rename_i hl
        cases e
        refine .inr ⟨a, j, vs, rfl, rfl, s _ _ h, by omega, by omega, by rw [r.length]; exact lim_size hl.2.2, fun p hp => q _ _ _ (Go.new s hp) (.lst upd_same ((r.flat _).new s hp))⟩
      · cases e
    | _ => cases e
  | _ => cases e
def iiV (g : Int → Int → Option U) : U → U → Option U
  | .int i, .int j => g i j
  | _, _ => none
theorem rv_ii {g : Int → Int → V} {g' : Int → Int → Option U} (h : ∀ i j z, g' i j = some z → ∀ B, Rp B z (g i j)) : RV (rI0 g) (iiV g') := fun x y z e v w B H s rx ry Q q => by
  cases rx with
  | int i =>
    cases ry with
    | int j => exact ⟨i, j, rfl, rfl, q _ B H (Go.refl s) (h i j z e B)⟩
    | _ => cases e
  | _ => cases e
theorem rv_iic {C : Int → Int → Prop} {g : Int → Int → V} {g' : Int → Int → Option U} (h : ∀ i j z, g' i j = some z → C i j ∧ ∀ B, Rp B z (g i j)) : RV (rI C g) (iiV g') := fun x y z e v w B H s rx ry Q q => by
  cases rx with
  | int i =>
    cases ry with
    | int j => exact ⟨i, j, rfl, rfl, (h i j z e).1, q _ B H (Go.refl s) ((h i j z e).2 B)⟩
    | _ => cases e
  | _ => cases e
def subV : U → U → Option U := iiV fun i j => some (.int (i - j))
theorem rv_sub : RV (rI0 fun i j => .int (i - j)) subV := rv_ii fun i j z e B => by cases e; exact .int _
def ltV : U → U → Option U := iiV fun i j => some (.bl (decide (i < j)))
theorem rv_lt : RV (rI0 fun i j => .bl (decide (i < j))) ltV := rv_ii fun i j z e B => by cases e; exact .bl _
def leV : U → U → Option U := iiV fun i j => some (.bl (decide (i ≤ j)))
theorem rv_le : RV (rI0 fun i j => .bl (decide (i ≤ j))) leV := rv_ii fun i j z e B => by cases e; exact .bl _
def gtV : U → U → Option U := iiV fun i j => some (.bl (decide (j < i)))
theorem rv_gt : RV (rI0 fun i j => .bl (decide (j < i))) gtV := rv_ii fun i j z e B => by cases e; exact .bl _
def geV : U → U → Option U := iiV fun i j => some (.bl (decide (j ≤ i)))
theorem rv_ge : RV (rI0 fun i j => .bl (decide (j ≤ i))) geV := rv_ii fun i j z e B => by cases e; exact .bl _
def modV : U → U → Option U := iiV fun i j => if 0 < j then some (.int (i % j)) else none
theorem rv_mod : RV (rI (fun _ j => 0 < j) fun i j => .int (i % j)) modV := rv_iic fun i j z e => by
  split at e
  · rename_i hj
    cases e; exact ⟨hj, fun B => .int _⟩
  · cases e
def fdivV : U → U → Option U := iiV fun i j => if 0 < j ∧ j < 1073741824 then some (.int (i / j)) else none
theorem rv_fdiv : RV (rI CDiv fun i j => .int (i / j)) fdivV := rv_iic fun i j z e => by
  split at e
  · rename_i hj
    cases e; exact ⟨hj, fun B => .int _⟩
  · cases e
def powV : U → U → Option U := iiV fun i j => if 0 ≤ j ∧ j ≤ 1000000 ∧ i.natAbs < 2 ^ 64 then some (.int (i ^ j.toNat)) else none
theorem rv_pow : RV (rI CPow fun i j => .int (i ^ j.toNat)) powV := rv_iic fun i j z e => by
  split at e
  · rename_i hj
    cases e; exact ⟨hj, fun B => .int _⟩
  · cases e
def negV : U → Option U
  | .int i => some (.int (-i))
  | _ => none
theorem ru_neg : RU (rU fun i => .int (-i)) negV := fun x z e v B H s rx Q q => by
  cases rx with
  | int i => cases e; exact ⟨i, rfl, q _ B H (Go.refl s) (.int _)⟩
  | _ => cases e
/-! ### is, is not: None, truths -/
def rIsU : R2 := fun x y H Q => (y = .non ∧ Q (.bl (decide (x = .non))) H) ∨ ∃ a b, x = .bl a ∧ y = .bl b ∧ Q (.bl (decide (a = b))) H
def rIsNotU : R2 := fun x y H Q => (y = .non ∧ Q (.bl (!decide (x = .non))) H) ∨ ∃ a b, x = .bl a ∧ y = .bl b ∧ Q (.bl (!decide (a = b))) H
theorem op_isU {X : Cx} : OpR X (compareOp .Is) rIsU := op_isN.or op_is_bl
theorem op_isNotU {X : Cx} : OpR X (compareOp .IsNot) rIsNotU := op_notN.or op_isnot_bl
def U.isNon : U → Bool
  | .non => true
  | _ => false
def isB : U → U → Option Bool
  | x, .non => some x.isNon
  | .bl a, .bl b => some (decide (a = b))
  | _, _ => none
theorem Rp.isNon {B : Hp} {x : U} {v : V} (r : Rp B x v) : x.isNon = decide (v = .non) := by
  cases r with
  | non => rfl
  | _ => rw [decide_eq_false (fun z => nomatch z)]; rfl
def isV (x y : U) : Option U := (isB x y).map U.bl
def isNotV (x y : U) : Option U := (isB x y).map fun b => U.bl (!b)
theorem rv_is : RV rIsU isV := fun x y z e v w B H s rx ry Q q => by
  obtain ⟨b, eb, e⟩ := map_some e
  subst e
  cases ry with
  | non =>
    have eb : some x.isNon = some b := by cases x <;> exact eb
    cases eb
    rw [rx.isNon] at q
    exact .inl ⟨rfl, q _ B H (Go.refl s) (.bl _)⟩
  | bl c =>
    cases rx with
    | bl a => cases eb; exact .inr ⟨a, c, rfl, rfl, q _ B H (Go.refl s) (.bl _)⟩
    | _ => cases eb
  | _ => cases rx <;> cases eb
theorem rv_isNot : RV rIsNotU isNotV := fun x y z e v w B H s rx ry Q q => by
  obtain ⟨b, eb, e⟩ := map_some e
  subst e
  cases ry with
  | non =>
    have eb : some x.isNon = some b := by cases x <;> exact eb
    cases eb
    rw [rx.isNon] at q
    exact .inl ⟨rfl, q _ B H (Go.refl s) (.bl _)⟩
  | bl c =>
    cases rx with
    | bl a => cases eb; exact .inr ⟨a, c, rfl, rfl, q _ B H (Go.refl s) (.bl _)⟩
    | _ => cases eb
  | _ => cases rx <;> cases eb
/-! ### in: lists, tuples; one sign in a text; a key in a dict -/
def U.key : U → Option Key
  | .int i => some (.inl i)
  | .str s => some (.inr s)
  | _ => none
def keysL : List U → Option (List Key)
  | [] => some []
  | x :: xs => x.key.bind fun k => (keysL xs).map fun r => k :: r
def lookK {κ : Type} [DecidableEq κ] (kvs : List (κ × U)) (k : κ) : Option U := (kvs.find? fun kv => decide (kv.1 = k)).map (·.2)
/-- what a dict has at a key; none: no such thing can be asked -/
def dgetO : U → U → Option (Option U)
  | .dic kvs, y => y.key.map fun k => lookK kvs k
  | .dit kvs, .tup ys => (keysL ys).map fun k => lookK kvs k
  | _, _ => none
theorem Rp.key {B : Hp} {x : U} {v : V} {k : Key} (r : Rp B x v) (h : x.key = some k) : v = kV k := by
  cases r with
  | int i => cases h; rfl
  | str i => cases h; rfl
  | _ => cases h
theorem Rps.keys {B : Hp} : ∀ {xs : List U} {vs : List V} {k : List Key}, Rps B xs vs → keysL xs = some k → vs = k.map kV
  | _, _, _, .nil, h => by cases h; rfl
  | _, _, _, .cons r t, h => by
    obtain ⟨a, ea, h⟩ := bind_some h
    obtain ⟨c, ec, h⟩ := map_some h
    subst h
    rw [List.map_cons, r.key ea, t.keys ec]
theorem Rpk.look {B : Hp} (k : Key) : ∀ {xs : List (Key × U)} {vs : List (Key × V)}, Rpk B xs vs → (∀ x, lookK xs k = some x → ∃ v, valV vs k = some v ∧ Rp B x v) ∧ (lookK xs k = none → valV vs k = none)
  | _, _, .nil => ⟨fun x h => (by cases h), fun _ => rfl⟩
  | _, _, @Rpk.cons _ _ k' x v xs vs r t => by
    obtain ⟨i1, i2⟩ := Rpk.look k t
    by_cases e : k' = k
    · subst e
      have e1 : lookK ((k', x) :: xs) k' = some x := by simp [lookK]
      have e2 : valV ((k', v) :: vs) k' = some v := by simp [valV]
      rw [e1, e2]
      exact ⟨fun y h => by cases h; exact ⟨v, rfl, r⟩, fun h => by cases h⟩
    · have e1 : lookK ((k', x) :: xs) k = lookK xs k := by simp [lookK, e]
      have e2 : valV ((k', v) :: vs) k = valV vs k := by simp [valV, e]
      rw [e1, e2]
      exact ⟨i1, i2⟩
theorem Rpt.look {B : Hp} (k : List Key) : ∀ {xs : List (List Key × U)} {vs : List (List Key × V)}, Rpt B xs vs → (∀ x, lookK xs k = some x → ∃ v, valV vs k = some v ∧ Rp B x v) ∧ (lookK xs k = none → valV vs k = none)
  | _, _, .nil => ⟨fun x h => (by cases h), fun _ => rfl⟩
  | _, _, @Rpt.cons _ _ k' x v xs vs r t => by
    obtain ⟨i1, i2⟩ := Rpt.look k t
    by_cases e : k' = k
    · subst e
      have e1 : lookK ((k', x) :: xs) k' = some x := by simp [lookK]
      have e2 : valV ((k', v) :: vs) k' = some v := by simp [valV]
      rw [e1, e2]
      exact ⟨fun y h => by cases h; exact ⟨v, rfl, r⟩, fun h => by cases h⟩
    · have e1 : lookK ((k', x) :: xs) k = lookK xs k := by simp [lookK, e]
      have e2 : valV ((k', v) :: vs) k = valV vs k := by simp [valV, e]
      rw [e1, e2]
      exact ⟨i1, i2⟩
end Dn
set_option Elab.async false
set_option linter.all false
set_option maxRecDepth 100000
set_option maxHeartbeats 2000000
namespace Dn
open PySem L2
variable [CTab]
theorem CallR.or {X : Cx} {f : Value} {r r' : List V → Hp → VK → Prop} (h : CallR X f r) (h' : CallR X f r') : CallR X f (fun xs H Q => r xs H Q ∨ r' xs H Q) := by
  intro pins s σ H xs us Q I rx q
  rcases q with q | q
  · exact h pins s σ H xs us Q I rx q
  · exact h' pins s σ H xs us Q I rx q
/-! ### a dict asked -/
theorem dget_of {x y : U} {v w : V} {B H : Hp} {o : Option U} (h : dgetO x y = some o) (s : Same B H) (rx : Rp B x v) (ry : Rp B y w) :
    ∃ a r, v = .ref a ∧ DGet H a w r ∧ r.isSome = o.isSome ∧ ∀ z, o = some z → ∃ u, r = some u ∧ Rp B z u := by
  cases rx with
  | @dic a kvs es ob e r =>
    have h : y.key.map (fun k => lookK kvs k) = some o := by cases y <;> exact h
    obtain ⟨k, ek, h⟩ := map_some h
    obtain ⟨i1, i2⟩ := r.look k
    refine ⟨a, valV es k, rfl, .inl ⟨es, k, .inr ⟨ob, s _ _ e⟩, ry.key ek, rfl⟩, ?_, fun z ez => ?_⟩
    · cases eo : o with
      | none => rw [i2 (by rw [h, eo])]; rfl
      | some z => obtain ⟨u, e1, _⟩ := i1 z (by rw [h, eo]); rw [e1]; rfl
    · obtain ⟨u, e1, e2⟩ := i1 z (by rw [h, ez])
      exact ⟨u, e1, e2⟩
  | @dit a kvs es ob e r =>
    cases ry with
    | @tup b ys ws e' r' =>
      obtain ⟨k, ek, h⟩ := map_some h
      obtain ⟨i1, i2⟩ := r.look k
      have hk := r'.keys ek
      refine ⟨a, valV es k, rfl, .inr ⟨es, k, b, .inr ⟨ob, s _ _ e⟩, rfl, by rw [← hk]; exact s _ _ e', rfl⟩, ?_, fun z ez => ?_⟩
      · cases eo : o with
        | none => rw [i2 (by rw [h, eo])]; rfl
        | some z => obtain ⟨u, e1, _⟩ := i1 z (by rw [h, eo]); rw [e1]; rfl
      · obtain ⟨u, e1, e2⟩ := i1 z (by rw [h, ez])
        exact ⟨u, e1, e2⟩
    | _ => cases h
  | _ => cases h
/-! ### in -/
def U.sign : U → Option Nat
  | .str s => match s.cps.toList with
    | [c] => some c
    | _ => none
  | _ => none
def inB : U → U → Option Bool
  | x, .lst xs => inO dep x xs
  | x, .tup xs => inO dep x xs
  | x, .tpd xs => inO dep x xs
  | x, .frl xs => inO dep x xs
  | x, .dic kvs => (dgetO (.dic kvs) x).map Option.isSome
  | x, .dit kvs => (dgetO (.dit kvs) x).map Option.isSome
  | x, .str z => x.sign.map fun c => decide (c ∈ z.cps.toList)
  | _, _ => none
def rDIn (neg : Bool) : R2 := fun x y H Q => ∃ a o, y = .ref a ∧ DGet H a x o ∧ Q (.bl (if neg then !o.isSome else o.isSome)) H
def rSIn (neg : Bool) : R2 := fun x y H Q => ∃ (c : Nat) (z : Str), x = .str ⟨#[c]⟩ ∧ y = .str z ∧ Q (.bl (if neg then !decide (c ∈ z.cps.toList) else decide (c ∈ z.cps.toList))) H
def rInA (neg : Bool) : R2 := fun x y H Q => rInU neg x y H Q ∨ rDIn neg x y H Q ∨ rSIn neg x y H Q
section
variable {X : Cx}
theorem op_dIn (hu : X.A.units + 1 < cLine) : OpR X (compareOp .In) (rDIn false) := by
  intro pins s σ H x y v u Q I rx ry h
  obtain ⟨a, o, rfl, g, q⟩ := h
  cases ry
  exact d_in hu I g rx fun s3 I3 => ⟨.bl o.isSome, H, I3, rfl, q⟩
theorem op_dNotIn (hu : X.A.units + 1 < cLine) : OpR X (compareOp .NotIn) (rDIn true) := by
  intro pins s σ H x y v u Q I rx ry h
  obtain ⟨a, o, rfl, g, q⟩ := h
  cases ry
  exact d_notIn hu I g rx fun s3 I3 => ⟨.bl (!o.isSome), H, I3, rfl, q⟩
theorem op_inA (hu : X.A.units + 64 < cLine) : OpR X (compareOp .In) (rInA false) := (op_inU hu).or ((op_dIn (by omega)).or op_in_sign)
theorem op_notInA (hu : X.A.units + 64 < cLine) : OpR X (compareOp .NotIn) (rInA true) := (op_notInU hu).or ((op_dNotIn (by omega)).or op_notIn_sign)
end
theorem inA_of {neg : Bool} {x y : U} {b : Bool} (e : inB x y = some b) {v w : V} {B H : Hp} (s : Same B H) (rx : Rp B x v) (ry : Rp B y w) {Q : VK} (q : Q (.bl (if neg then !b else b)) H) : rInA neg v w H Q := by
  cases ry with
  | lst h r =>
    exact .inl ⟨x, _, _, b, rx.in s, (Rp.lst h r).in s, rfl, e, q⟩
  | tup h r =>
    exact .inl ⟨x, _, _, b, rx.in s, (Rp.tup h r).in s, rfl, e, q⟩
  | tpd h hd r =>
    exact .inl ⟨x, _, _, b, rx.in s, (Rp.tpd h hd r).in s, rfl, e, q⟩
  | frl h r =>
    exact .inl ⟨x, _, _, b, rx.in s, (Rp.frl h r).in s, rfl, e, q⟩
  | @dic a kvs es ob h r =>
    obtain ⟨o, eo, e⟩ := map_some e
    obtain ⟨a, r', ea, g, h1, _⟩ := dget_of eo s (.dic h r) rx
    subst e
    rw [← h1] at q
    exact .inr (.inl ⟨a, r', ea, g, q⟩)
  | @dit a kvs es ob h r =>
    obtain ⟨o, eo, e⟩ := map_some e
    obtain ⟨a, r', ea, g, h1, _⟩ := dget_of eo s (.dit h r) rx
    subst e
    rw [← h1] at q
    exact .inr (.inl ⟨a, r', ea, g, q⟩)
  | str z =>
    obtain ⟨c, ec, e⟩ := map_some e
    subst e
    cases rx with
    | str t =>
      have ec : (match t.cps.toList with | [c] => some c | _ => none) = some c := ec
      split at ec
      · rename_i c' hc
        cases ec
        have e1 : t = ⟨#[c]⟩ := by
          cases t with
          | mk cps =>
            have : cps = #[c] := by
              apply Array.ext'
              simpa using hc
            rw [this]
        subst e1
        exact .inr (.inr ⟨c, z, rfl, rfl, q⟩)
      · cases ec
    | _ => cases ec
  | _ => cases e
def inV2 (x y : U) : Option U := (inB x y).map U.bl
def notInV2 (x y : U) : Option U := (inB x y).map fun b => U.bl (!b)
theorem rv_in : RV (rInA false) inV2 := fun x y z e v w B H s rx ry Q q => by
  obtain ⟨b, eb, e⟩ := map_some e
  subst e
  exact inA_of eb s rx ry (q _ B H (Go.refl s) (.bl _))
theorem rv_notIn : RV (rInA true) notInV2 := fun x y z e v w B H s rx ry Q q => by
  obtain ⟨b, eb, e⟩ := map_some e
  subst e
  exact inA_of eb s rx ry (q _ B H (Go.refl s) (.bl _))
/-! ### subscripts -/
def U.items : U → Option (List U)
  | .lst xs => some xs
  | .tup xs => some xs
  | .frl xs => some xs
  | _ => none
def U.tupQ : U → Bool
  | .tup _ => true
  | _ => false
/-- what is walked and read by place -/
theorem items_of {K : PySem.W.Frag} {x : U} {xs : List U} {v : V} {B H : Hp} (h : x.items = some xs) (s : Same B H) (r : Rp B x v) : ∃ a vs, v = .ref a ∧ Rps B xs vs ∧ ((SqL K H a vs ∧ x.tupQ = false) ∨ (SqT K H a vs ∧ x.tupQ = true)) := by
  cases r with
  | @lst a _ vs e r => cases h; exact ⟨a, vs, rfl, r, .inl ⟨SqL.of (s _ _ e), rfl⟩⟩
  | @tup a _ vs e r => cases h; exact ⟨a, vs, rfl, r, .inr ⟨SqT.of (s _ _ e), rfl⟩⟩
  | @frl a _ vs o e r => cases h; exact ⟨a, vs, rfl, r, .inl ⟨.inl (.inr ⟨o, s _ _ e⟩), rfl⟩⟩
  | _ => cases h
def rIxD : R2 := fun x y H Q => ∃ a v, x = .ref a ∧ DGet H a y (some v) ∧ Q v H
def rIxA (K : PySem.W.Frag) : R2 := fun x y H Q => rIx K x y H Q ∨ rIxD x y H Q
section
variable {X : Cx}
theorem ix_dict (hu : X.A.units + 1 < cLine) : IxR X rIxD := by
  intro value slice pins s σ H x y v u Q I rx ry h hs
  obtain ⟨a, z, rfl, g, q⟩ := h
  cases rx
  exact PyProof.Rows.tail_any (dict_typeIs I g) PySem.F.slot_dict_getitem.lookup (d_getItem hu I g ry fun w' s3 I3 rw' => ⟨z, H, I3, rw', q⟩) hs
theorem ix_any (hu : X.A.units + 64 < cLine) : IxR X (rIxA X.K) := ix_seq.or (ix_dict (by omega))
end
def getV : U → U → Option U
  | .lst xs, .int i => atI xs i
  | .tup xs, .int i => atI xs i
  | .tpd xs, .int i => atI xs i
  | .frl xs, .int i => atI xs i
  | .str z, .int i => if z.length ≤ lim then (atI z.cps.toList i).map fun c => .str ⟨#[c]⟩ else none
  | .dic kvs, y => (dgetO (.dic kvs) y).bind id
  | .dit kvs, y => (dgetO (.dit kvs) y).bind id
  | _, _ => none
theorem Rps.atI {B : Hp} {xs : List U} {vs : List V} (r : Rps B xs vs) {i : Int} {x : U} (h : L2.atI xs i = some x) : ∃ v, L2.atI vs i = some v ∧ Rp B x v := by
  unfold L2.atI at h ⊢
  rw [r.length]
  obtain ⟨j, ej, h⟩ := bind_some h
  obtain ⟨v, ev, rv⟩ := r.get h
  exact ⟨v, by rw [ej]; exact ev, rv⟩
theorem atI_map {α β : Type} {f : α → β} {xs : List α} {i : Int} {x : α} (h : atI xs i = some x) : atI (xs.map f) i = some (f x) := by
  unfold atI at h ⊢
  rw [List.length_map]
  obtain ⟨j, ej, h⟩ := bind_some h
  rw [ej]
  show (xs.map f)[j]? = _
  rw [List.getElem?_map, h]
  rfl
theorem rv_get {K : PySem.W.Frag} : RV (rIxA K) getV := fun x y z e v w B H s rx ry Q q => by
  cases rx with
  | @lst a xs vs h r =>
    cases ry with
    | int i =>
      obtain ⟨u, eu, ru⟩ := r.atI e
      exact .inl (.inl ⟨a, vs, i, u, rfl, rfl, SqL.of (s _ _ h), eu, q _ B H (Go.refl s) ru⟩)
    | _ => cases e
  | @tup a xs vs h r =>
    cases ry with
    | int i =>
      obtain ⟨u, eu, ru⟩ := r.atI e
      exact .inl (.inr (.inl ⟨a, vs, i, u, rfl, rfl, SqT.of (s _ _ h), eu, q _ B H (Go.refl s) ru⟩))
    | _ => cases e
  | @frl a xs vs o h r =>
    cases ry with
    | int i =>
      obtain ⟨u, eu, ru⟩ := r.atI e
      exact .inl (.inl ⟨a, vs, i, u, rfl, rfl, .inl (.inr ⟨o, s _ _ h⟩), eu, q _ B H (Go.refl s) ru⟩)
    | _ => cases e
  | @tpd a xs vs o h hd r =>
    cases ry with
    | int i =>
      obtain ⟨u, eu, ru⟩ := r.atI e
      exact .inl (.inr (.inl ⟨a, vs, i, u, rfl, rfl, .inl (.inr ⟨o, s _ _ h⟩), eu, q _ B H (Go.refl s) ru⟩))
    | _ => cases e
  | str t =>
    cases ry with
    | int i =>
      have e : (if t.length ≤ lim then (atI t.cps.toList i).map (fun c => U.str ⟨#[c]⟩) else none) = some z := e
      split at e
      · rename_i hl
        obtain ⟨c, ec, e⟩ := map_some e
        subst e
        exact .inl (.inr (.inr ⟨t, i, c, rfl, rfl, lim_size hl, ec, q _ B H (Go.refl s) (.str _)⟩))
      · cases e
    | _ => cases e
  | @dic a kvs es ob h r =>
    have e : (dgetO (.dic kvs) y).bind id = some z := by cases y <;> exact e
    obtain ⟨o, eo, e⟩ := bind_some e
    obtain ⟨a, r', ea, g, _, h2⟩ := dget_of eo s (.dic h r) ry
    obtain ⟨u, eu, ru⟩ := h2 z e
    exact .inr ⟨a, u, ea, by rw [← eu]; exact g, q _ B H (Go.refl s) ru⟩
  | @dit a kvs es ob h r =>
    have e : (dgetO (.dit kvs) y).bind id = some z := by cases y <;> exact e
    obtain ⟨o, eo, e⟩ := bind_some e
    obtain ⟨a, r', ea, g, _, h2⟩ := dget_of eo s (.dit h r) ry
    obtain ⟨u, eu, ru⟩ := h2 z e
    exact .inr ⟨a, u, ea, by rw [← eu]; exact g, q _ B H (Go.refl s) ru⟩
  | _ => cases e
/-! ### slices -/
def cutU (xs : List U) (lo hi : Option Int) : List U := (xs.drop (HT.sIx xs.length 0 lo)).take (HT.sIx xs.length xs.length hi - HT.sIx xs.length 0 lo)
theorem Rps.cut {B : Hp} {xs : List U} {vs : List V} (r : Rps B xs vs) (lo hi : Option Int) : Rps B (cutU xs lo hi) (cutV vs lo hi) := by
  unfold cutU cutV
  rw [r.length]
  exact (r.drop _).take _
def rSlU (K : PySem.W.Frag) : V → Option Int → Option Int → Hp → VK → Prop := fun x lo hi H Q => rSlL K x lo hi H Q ∨ rSlA K x lo hi H Q ∨ rSlS x lo hi H Q
theorem sl_any {X : Cx} : SlR X (rSlU X.K) := sl_list.or (sl_tupA.or sl_str)
def sliceV : U → Option Int → Option Int → Option U
  | .lst xs, lo, hi => some (.lst (cutU xs lo hi))
  | .frl xs, lo, hi => some (.lst (cutU xs lo hi))
  | .tup xs, lo, hi => some (.tup (cutU xs lo hi))
  | .str z, lo, hi => if z.length ≤ lim then some (.str (cutS z lo hi)) else none
  | _, _, _ => none
def U.asI : U → Option Int
  | .int i => some i
  | _ => none
def EvP (tp : TO) (σ : St) (B H : Hp) (o : Option (Option Int)) : Prop :=
  ∀ z, o = some z → ∀ B1 H1, At B B1 H1 → ∀ Q : Option Int → Hp → Prop, (∀ B2 H2, Go B1 H1 B2 H2 → Q z H2) → tp σ H1 Q
theorem cutU_whole {xs : List U} {lo hi : Option Int} (h : HT.sIx xs.length 0 lo = 0 ∧ HT.sIx xs.length xs.length hi = xs.length) : cutU xs lo hi = xs := by
  unfold cutU
  rw [h.1, h.2]
  simp
section
variable {σ : St} {B H : Hp} {te : TE} {tl th : TO} {oa : Option U} {ol oh : Option (Option Int)} {K : PySem.W.Frag}
theorem ep_no : EvP tNoPart σ B H (some none) := fun z e B1 H1 g Q q => by cases e; exact q B1 H1 (Go.refl g.bh)
theorem ep_of (h : EvO te σ B H oa) : EvP (tPart te) σ B H ((oa.bind U.asI).map some) := fun z e B1 H1 g Q q => by
  obtain ⟨i, ei, e⟩ := map_some e
  obtain ⟨x, ex, ei⟩ := bind_some ei
  subst e
  cases x <;> cases ei
  exact h _ ex B1 H1 g _ fun v B2 H2 g2 r => by cases r; exact ⟨_, rfl, q B2 H2 g2⟩
theorem eo_slice (h : EvO te σ B H oa) (hl : EvP tl σ B H ol) (hh : EvP th σ B H oh) : EvO (tSl (rSlU K) te tl th) σ B H (oa.bind fun x => ol.bind fun l => oh.bind fun u => sliceV x l u) := fun z e B1 H1 g Q q => by
  obtain ⟨x, ex, e⟩ := bind_some e
  obtain ⟨lo, el, e⟩ := bind_some e
  obtain ⟨hi, eh, e⟩ := bind_some e
  refine h x ex B1 H1 g _ fun v B2 H2 g2 r2 => hl lo el B2 H2 (g.trans g2) _ fun B3 H3 g3 => hh hi eh B3 H3 ((g.trans g2).trans g3) _ fun B4 H4 g4 => ?_
  have g24 := g3.trans g4
  have r := r2.up g24
  have gg := g2.trans g24
  have s := g4.bh
  cases r with
  | @lst a xs vs e1 r1 =>
    cases e
    exact .inl ⟨a, vs, rfl, SqL.of (s _ _ e1), fun p hp => q _ _ _ (gg.trans (Go.new s hp)) (.lst upd_same ((r1.cut lo hi).new s hp))⟩
  | @frl a xs vs o e1 r1 =>
    cases e
    exact .inl ⟨a, vs, rfl, .inl (.inr ⟨o, s _ _ e1⟩), fun p hp => q _ _ _ (gg.trans (Go.new s hp)) (.lst upd_same ((r1.cut lo hi).new s hp))⟩
  | @tup a xs vs e1 r1 =>
    cases e
    refine .inr (.inl ⟨a, vs, rfl, SqT.of (s _ _ e1), fun hw => ?_, fun _ p hp => q _ _ _ (gg.trans (Go.new s hp)) (.tup upd_same ((r1.cut lo hi).new s hp))⟩)
    rw [r1.length] at hw
    rw [cutU_whole hw] at q
    exact q _ B4 H4 gg (.tup e1 r1)
  | str t =>
    have e : (if t.length ≤ lim then some (U.str (cutS t lo hi)) else none) = some z := e
    split at e
    · rename_i hl
      cases e
      exact .inr (.inr ⟨t, rfl, lim_size hl, q _ B4 H4 gg (.str _)⟩)
    · cases e
  | _ => cases e
end
/-! ### len -/
def rLenR : List V → Hp → VK → Prop := fun xs H Q => (∃ a kvs, xs = [V.ref a] ∧ Rd H a (.dK kvs) ∧ Q (.int kvs.length) H)
theorem call_lenR {X : Cx} : CallR X (.builtin "len") rLenR := by
  intro pins s σ H xs us Q I r h
  obtain ⟨a, kvs, rfl, ha, q⟩ := h
  obtain ⟨u, rfl, ru⟩ := vals1 r
  cases ru
  exact d_len I ha fun t s' I' => ⟨.int kvs.length, H, I', ⟨t, rfl⟩, q⟩
def rLenA (K : PySem.W.Frag) : List V → Hp → VK → Prop := fun xs H Q => (∃ p ys, xs = [.ref p] ∧ (SqL K H p ys ∨ SqT K H p ys) ∧ Q (.int ys.length) H) ∨ (∃ z, xs = [.str z] ∧ z.length ≤ sizeLine ∧ Q (.int z.length) H) ∨ rLenR xs H Q
theorem call_lenA {X : Cx} : CallR X (.builtin "len") (rLenA X.K) := CallR.or call_len_seq (CallR.or call_len_str call_lenR)
def lenV : List U → Option U
  | [.lst xs] => some (.int xs.length)
  | [.tup xs] => some (.int xs.length)
  | [.tpd xs] => some (.int xs.length)
  | [.frl xs] => some (.int xs.length)
  | [.str z] => if z.length ≤ lim then some (.int z.length) else none
  | [.dic kvs] => some (.int kvs.length)
  | _ => none
theorem Rpk.length {B : Hp} : ∀ {xs : List (Key × U)} {vs : List (Key × V)}, Rpk B xs vs → vs.length = xs.length
  | _, _, .nil => rfl
  | _, _, .cons _ t => by rw [List.length_cons, List.length_cons, Rpk.length t]
theorem rc_one {f : List U → Option U} {r : List V → Hp → VK → Prop} (hn : ∀ xs z, f xs = some z → ∃ x, xs = [x])
    (h : ∀ x z, f [x] = some z → ∀ v B H, Same B H → Rp B x v → ∀ Q : VK, (∀ v2 B2 H2, Go B H B2 H2 → Rp B2 z v2 → Q v2 H2) → r [v] H Q) : RC r f := fun xs z e vs B H s rs Q q => by
  obtain ⟨x, rfl⟩ := hn xs z e
  cases rs with
  | cons r1 t => cases t; exact h x z e _ B H s r1 Q q
theorem rc_len {K : PySem.W.Frag} : RC (rLenA K) lenV := rc_one (fun xs z e => by
    match xs, e with
    | [x], _ => exact ⟨x, rfl⟩
    | [], e => cases e
    | x :: y :: r, e => cases x <;> cases e) fun x z e v B H s rx Q q => by
  cases rx with
  | @lst a xs vs h r => cases e; rw [← r.length] at q; exact .inl ⟨a, vs, rfl, .inl (SqL.of (s _ _ h)), q _ B H (Go.refl s) (.int _)⟩
  | @tup a xs vs h r => cases e; rw [← r.length] at q; exact .inl ⟨a, vs, rfl, .inr (SqT.of (s _ _ h)), q _ B H (Go.refl s) (.int _)⟩
  | @frl a xs vs o h r => cases e; rw [← r.length] at q; exact .inl ⟨a, vs, rfl, .inl (.inl (.inr ⟨o, s _ _ h⟩)), q _ B H (Go.refl s) (.int _)⟩
  | @tpd a xs vs o h hd r => cases e; rw [← r.length] at q; exact .inl ⟨a, vs, rfl, .inr (.inl (.inr ⟨o, s _ _ h⟩)), q _ B H (Go.refl s) (.int _)⟩
  | str t =>
    have e : (if t.length ≤ lim then some (U.int t.length) else none) = some z := e
    split at e
    · rename_i hl
      cases e
      exact .inr (.inl ⟨t, rfl, lim_size hl, q _ B H (Go.refl s) (.int _)⟩)
    · cases e
  | @dic a kvs es ob h r => cases e; rw [← r.length] at q; exact .inr (.inr ⟨a, es, rfl, .inr ⟨ob, s _ _ h⟩, q _ B H (Go.refl s) (.int _)⟩)
  | _ => cases e
/-! ### isinstance -/
def U.tyn : U → Option String
  | .non => some "NoneType"
  | .bl _ => some "bool"
  | .int _ => some "int"
  | .str _ => some "str"
  | .tup _ => some "tuple"
  | .lst _ => some "list"
  | .frl _ => some "list"
  | .dic _ => some "dict"
  | .dit _ => none
  | .tpd _ => none
  | .obj _ _ => none
theorem tyx_of {K : PySem.W.Frag} {x : U} {v : V} {B H : Hp} {T : String} (h : x.tyn = some T) (s : Same B H) (r : Rp B x v) : TyX K H v (.type T) := by
  cases r with
  | non => cases h; exact .base .non
  | bl b => cases h; exact .base (.bl b)
  | int b => cases h; exact .base (.int b)
  | str b => cases h; exact .base (.str b)
  | tup e _ => cases h; exact .base (.tup (s _ _ e))
  | lst e _ => cases h; exact .base (.lst (s _ _ e))
  | frl e r => cases h; exact .base (.frz (s _ _ e))
  | dic e _ =>
    cases h
    exact .fDict (s _ _ e)
  | dit e _ => cases h
  | tpd _ _ _ => cases h
  | obj _ _ _ => cases h
def isStrB : U → Option Bool
  | .str _ => some true
  | .dit _ => none
  | .tpd _ => none
  | .obj _ _ => none
  | _ => some false
def isIntB : U → Option Bool
  | .int _ => some true
  | .bl _ => some true
  | .dit _ => none
  | .tpd _ => none
  | .obj _ _ => none
  | _ => some false
def isBoolB : U → Option Bool
  | .bl _ => some true
  | .dit _ => none
  | .tpd _ => none
  | .obj _ _ => none
  | _ => some false
def isTupB : U → Option Bool
  | .tup _ => some true
  | .dit _ => none
  | .tpd _ => none
  | .obj _ _ => none
  | _ => some false
theorem isStr_kit {x : U} {b : Bool} (h : isStrB x = some b) : ∃ T, x.tyn = some T ∧ kitB T "str" = some b := by
  cases x <;> cases h <;> exact ⟨_, rfl, by decide +kernel⟩
theorem isInt_kit {x : U} {b : Bool} (h : isIntB x = some b) : ∃ T, x.tyn = some T ∧ kitB T "int" = some b := by
  cases x <;> cases h <;> exact ⟨_, rfl, by decide +kernel⟩
theorem isBool_kit {x : U} {b : Bool} (h : isBoolB x = some b) : ∃ T, x.tyn = some T ∧ kitB T "bool" = some b := by
  cases x <;> cases h <;> exact ⟨_, rfl, by decide +kernel⟩
theorem isTup_kit {x : U} {b : Bool} (h : isTupB x = some b) : ∃ T, x.tyn = some T ∧ kitB T "tuple" = some b := by
  cases x <;> cases h <;> exact ⟨_, rfl, by decide +kernel⟩
section
variable {σ : St} {B H : Hp} {te : TE} {oa : Option U} {K : PySem.W.Frag}
theorem eo_isi {T : String} {f : U → Option Bool} (hf : ∀ {x b}, f x = some b → ∃ S, x.tyn = some S ∧ kitB S T = some b) (h : EvO te σ B H oa) :
    EvO (tCB (rIsi K) (tCons te (tCons (tC (.ty T)) tNil))) σ B H (oa.bind fun x => (f x).map U.bl) := fun z e B1 H1 g Q q => by
  obtain ⟨x, ex, e⟩ := bind_some e
  obtain ⟨b, eb, e⟩ := map_some e
  subst e
  obtain ⟨S, e1, e2⟩ := hf eb
  exact h x ex B1 H1 g _ fun v B2 H2 g2 r => ⟨v, .ty T, .type S, .type T, b, rfl, .ty T, tyx_of e1 g2.bh r, kit_ty e2, q _ B2 H2 g2 (.bl b)⟩
theorem eo_isStr (h : EvO te σ B H oa) : EvO (tCB (rIsi K) (tCons te (tCons (tC (.ty "str")) tNil))) σ B H (oa.bind fun x => (isStrB x).map U.bl) := eo_isi isStr_kit h
theorem eo_isInt (h : EvO te σ B H oa) : EvO (tCB (rIsi K) (tCons te (tCons (tC (.ty "int")) tNil))) σ B H (oa.bind fun x => (isIntB x).map U.bl) := eo_isi isInt_kit h
theorem eo_isBool (h : EvO te σ B H oa) : EvO (tCB (rIsi K) (tCons te (tCons (tC (.ty "bool")) tNil))) σ B H (oa.bind fun x => (isBoolB x).map U.bl) := eo_isi isBool_kit h
theorem eo_isTup (h : EvO te σ B H oa) : EvO (tCB (rIsi K) (tCons te (tCons (tC (.ty "tuple")) tNil))) σ B H (oa.bind fun x => (isTupB x).map U.bl) := eo_isi isTup_kit h
end
/-! ### all, any, sum, list(), tuple(), abs, min, max, int() -/
def bools : List U → Option (List Bool)
  | [] => some []
  | .bl b :: xs => (bools xs).map fun r => b :: r
  | _ :: _ => none
def intsU : List U → Option (List Int)
  | [] => some []
  | .int b :: xs => (intsU xs).map fun r => b :: r
  | _ :: _ => none
theorem Rps.bools {B : Hp} : ∀ {xs : List U} {vs : List V} {bs : List Bool}, Rps B xs vs → Dn.bools xs = some bs → vs = bs.map V.bl
  | _, _, _, .nil, h => by cases h; rfl
  | _, _, _, .cons r t, h => by
    cases r with
    | bl b =>
      obtain ⟨c, ec, h⟩ := map_some h
      subst h
      rw [List.map_cons, t.bools ec]
    | _ => cases h
theorem Rps.intsOf {B : Hp} : ∀ {xs : List U} {vs : List V} {bs : List Int}, Rps B xs vs → intsU xs = some bs → vs = bs.map V.int
  | _, _, _, .nil, h => by cases h; rfl
  | _, _, _, .cons r t, h => by
    cases r with
    | int b =>
      obtain ⟨c, ec, h⟩ := map_some h
      subst h
      rw [List.map_cons, t.intsOf ec]
    | _ => cases h
/-- a call of one argument -/
def c1 (f : U → Option U) : List U → Option U
  | [x] => f x
  | _ => none
theorem c1_one {f : U → Option U} : ∀ xs z, c1 f xs = some z → ∃ x, xs = [x]
  | [x], _, _ => ⟨x, rfl⟩
  | [], _, e => by cases e
  | _ :: _ :: _, _, e => by cases e
def allV : U → Option U
  | .lst xs => (bools xs).map fun bs => .bl (bs.all id)
  | _ => none
def anyV : U → Option U
  | .lst xs => (bools xs).map fun bs => .bl (bs.any id)
  | _ => none
def sumV : U → Option U
  | .lst xs => (intsU xs).map fun bs => .int bs.sum
  | _ => none
theorem rc_all {K : PySem.W.Frag} : RC (rAll K) (c1 allV) := rc_one c1_one fun x z e v B H s rx Q q => by
  cases rx with
  | @lst a xs vs h r =>
    obtain ⟨bs, eb, e⟩ := map_some e
    subst e
    exact ⟨a, bs, rfl, by rw [← r.bools eb]; exact SqL.of (s _ _ h), q _ B H (Go.refl s) (.bl _)⟩
  | _ => cases e
theorem rc_any {K : PySem.W.Frag} : RC (rAny K) (c1 anyV) := rc_one c1_one fun x z e v B H s rx Q q => by
  cases rx with
  | @lst a xs vs h r =>
    obtain ⟨bs, eb, e⟩ := map_some e
    subst e
    exact ⟨a, bs, rfl, by rw [← r.bools eb]; exact SqL.of (s _ _ h), q _ B H (Go.refl s) (.bl _)⟩
  | _ => cases e
theorem rc_sum {K : PySem.W.Frag} : RC (rSum K) (c1 sumV) := rc_one c1_one fun x z e v B H s rx Q q => by
  cases rx with
  | @lst a xs vs h r =>
    obtain ⟨bs, eb, e⟩ := map_some e
    subst e
    exact ⟨a, bs, rfl, by rw [← r.intsOf eb]; exact SqL.of (s _ _ h), q _ B H (Go.refl s) (.int _)⟩
  | _ => cases e
def rListA (K : PySem.W.Frag) : List V → Hp → VK → Prop := fun xs H Q => (∃ p ys, xs = [.ref p] ∧ (SqL K H p ys ∨ SqT K H p ys) ∧ ∀ l, H l = none → Q (.ref l) (upd H l (.lst ys))) ∨ rListD xs H Q
theorem call_listA {X : Cx} (hc : X.calm = true) : CallR X (.type "list") (rListA X.K) := CallR.or call_list_of (call_list_dK hc)
def kU : Key → U
  | .inl i => .int i
  | .inr x => .str x
theorem rp_key {B : Hp} (k : Key) : Rp B (kU k) (kV k) := by
  cases k with
  | inl i => exact .int i
  | inr i => exact .str i
theorem Rpk.keys {B : Hp} : ∀ {xs : List (Key × U)} {vs : List (Key × V)}, Rpk B xs vs → Rps B (xs.map fun kv => kU kv.1) (vs.map fun kv => kV kv.1)
  | _, _, .nil => .nil
  | _, _, .cons _ t => .cons (rp_key _) (Rpk.keys t)
def listV : U → Option U
  | .lst xs => some (.lst xs)
  | .tup xs => some (.lst xs)
  | _ => none
def tupleV : U → Option U
  | .lst xs => some (.tup xs)
  | .tup xs => some (.tup xs)
  | _ => none
theorem rc_list {K : PySem.W.Frag} : RC (rListA K) (c1 listV) := rc_one c1_one fun x z e v B H s rx Q q => by
  cases rx with
  | @lst a xs vs h r => cases e; exact .inl ⟨a, vs, rfl, .inl (SqL.of (s _ _ h)), fun p hp => q _ _ _ (Go.new s hp) (.lst upd_same (r.new s hp))⟩
  | @tup a xs vs h r => cases e; exact .inl ⟨a, vs, rfl, .inr (SqT.of (s _ _ h)), fun p hp => q _ _ _ (Go.new s hp) (.lst upd_same (r.new s hp))⟩
  | _ => cases e
def rTupleA (K : PySem.W.Frag) : List V → Hp → VK → Prop := fun xs H Q => ∃ p ys, xs = [.ref p] ∧ ((SqL K H p ys ∧ ∀ l, H l = none → Q (.ref l) (upd H l (.tup ys))) ∨ (SqT K H p ys ∧ Q (.ref p) H))
theorem rc_tuple {K : PySem.W.Frag} : RC (rTupleA K) (c1 tupleV) := rc_one c1_one fun x z e v B H s rx Q q => by
  cases rx with
  | @lst a xs vs h r => cases e; exact ⟨a, vs, rfl, .inl ⟨SqL.of (s _ _ h), fun p hp => q _ _ _ (Go.new s hp) (.tup upd_same (r.new s hp))⟩⟩
  | @tup a xs vs h r => cases e; exact ⟨a, vs, rfl, .inr ⟨SqT.of (s _ _ h), q _ B H (Go.refl s) (.tup h r)⟩⟩
  | _ => cases e
def absU : U → Option U
  | .int i => some (.int (if i < 0 then -i else i))
  | _ => none
theorem rc_abs : RC (fun xs H Q => ∃ i, xs = [V.int i] ∧ Q (.int (if i < 0 then -i else i)) H) (c1 absU) := rc_one c1_one fun x z e v B H s rx Q q => by
  cases rx with
  | int i => cases e; exact ⟨i, rfl, q _ B H (Go.refl s) (.int _)⟩
  | _ => cases e
def intV : U → Option U
  | .int i => some (.int i)
  | .bl b => some (.int (if b then 1 else 0))
  | _ => none
theorem rc_int : RC (fun xs H Q => (∃ i, xs = [V.int i] ∧ Q (.int i) H) ∨ ∃ k, xs = [V.bl k] ∧ Q (.int (if k then 1 else 0)) H) (c1 intV) := rc_one c1_one fun x z e v B H s rx Q q => by
  cases rx with
  | int i => cases e; exact .inl ⟨i, rfl, q _ B H (Go.refl s) (.int _)⟩
  | bl b => cases e; exact .inr ⟨b, rfl, q _ B H (Go.refl s) (.int _)⟩
  | _ => cases e
/-- a call of two ints -/
def c2i (f : Int → Int → Option U) : List U → Option U
  | [.int i, .int j] => f i j
  | _ => none
theorem rc_two {f : Int → Int → Option U} {r : List V → Hp → VK → Prop}
    (h : ∀ i j z, f i j = some z → ∀ B H, Same B H → ∀ Q : VK, (∀ v2 B2 H2, Go B H B2 H2 → Rp B2 z v2 → Q v2 H2) → r [.int i, .int j] H Q) : RC r (c2i f) := fun xs z e vs B H s rs Q q => by
  unfold c2i at e
  split at e
  · rename_i i j
    cases rs with
    | cons r1 t =>
      cases t with
      | cons r2 t =>
        cases t
        cases r1
        cases r2
        exact h i j z e B H s Q q
  · cases e
def maxU : List U → Option U := c2i fun i j => some (.int (if j > i then j else i))
def minU : List U → Option U := c2i fun i j => some (.int (if j < i then j else i))
def divmodU : List U → Option U := c2i fun i j => if 0 < j ∧ j < 1073741824 then some (.tup [.int (i / j), .int (i % j)]) else none
theorem rc_max : RC (fun xs H Q => ∃ i j, xs = [V.int i, .int j] ∧ Q (.int (if j > i then j else i)) H) maxU := rc_two fun i j z e B H s Q q => by cases e; exact ⟨i, j, rfl, q _ B H (Go.refl s) (.int _)⟩
theorem rc_min : RC (fun xs H Q => ∃ i j, xs = [V.int i, .int j] ∧ Q (.int (if j < i then j else i)) H) minU := rc_two fun i j z e B H s Q q => by cases e; exact ⟨i, j, rfl, q _ B H (Go.refl s) (.int _)⟩
theorem rc_divmod : RC (fun xs H Q => ∃ i j, xs = [V.int i, .int j] ∧ CDiv i j ∧ ∀ p, H p = none → Q (.ref p) (upd H p (.tup [.int (i / j), .int (i % j)]))) divmodU := rc_two fun i j z e B H s Q q => by
  split at e
  · rename_i hj
    cases e
    exact ⟨i, j, rfl, hj, fun p hp => q _ _ _ (Go.new s hp) (.tup upd_same (.cons (.int _) (.cons (.int _) .nil)))⟩
  · cases e
end Dn
set_option Elab.async false
set_option linter.all false
set_option maxRecDepth 100000
set_option maxHeartbeats 2000000
namespace Dn
open PySem L2
variable [CTab]
/-! ### what is walked -/
structure WalkU (J : It) (xs : List U) (B2 : Hp) : Prop where
  goes : ∀ i H, i < xs.length → Same B2 H → J.go i H
  stops : ∀ H, Same B2 H → J.stop xs.length H
  yields : ∀ i H x H' B, i < xs.length → Same B2 B → Same B H → J.yld i H x H' → ∃ B' u, Go B H B' H' ∧ xs[i]? = some u ∧ Rp B' u x
def EvI (wi : TI) (σ : St) (B H : Hp) (o : Option (List U)) : Prop :=
  ∀ xs, o = some xs → ∀ B1 H1, At B B1 H1 → ∀ R : It → Hp → Prop, (∀ J B2 H2, Go B1 H1 B2 H2 → WalkU J xs B2 → R J H2) → wi σ H1 R
/-- a walk that leaves the heap as it is -/
theorem WalkU.of {J : It} {n : Nat} {G : Hp → Prop} {vs : List V} {xs : List U} {B2 : Hp} (w : Walk J n G (YAt vs)) (hn : n = xs.length) (hG : ∀ H, Same B2 H → G H) (r : Rps B2 xs vs) : WalkU J xs B2 := by
  subst hn
  refine ⟨fun i H hi s => w.goes i H hi (hG H s), fun H s => w.stops H (hG H s), fun i H x H' B hi s1 s2 y => ?_⟩
  obtain ⟨e1, e2⟩ := w.yields i H x H' hi (hG H (s1.trans s2)) y
  subst e1
  obtain ⟨u, eu, ru⟩ := r.back e2
  exact ⟨B, u, Go.refl s2, eu, ru.kp (Kp.of s1)⟩
/-- a list or a tuple -/
def iSeq (K : PySem.W.Frag) (tl : TE) : TI := fun σ H R => tl σ H fun x H1 => (∃ a, x = .ref a ∧ (∃ xs, SqL K H1 a xs) ∧ R (Itl K a) H1) ∨ (∃ a, x = .ref a ∧ (∃ xs, SqT K H1 a xs) ∧ R (Itt K a) H1)
theorem pi_seq {X : Cx} {tg l : Expr} {tl : TE} (hl : PE X l tl) : PI X tg l (iSeq X.K tl) := by
  refine ⟨fun pins s σ H R I h => ?_⟩
  refine thn (hl.run pins s σ H _ I h) fun v s1 ⟨x, H1, I1, r1, q1⟩ => ?_
  rcases q1 with ⟨a, e, ⟨xs, hq⟩, q⟩ | ⟨a, e, ⟨xs, hq⟩, q⟩
  · subst e
    cases r1
    obtain ⟨its, rv, p, hz⟩ := I1.list hq
    refine wpAny_pyIter_list p.isList ?_
    refine ⟨s1.heap.objs.size, [s1.heap.objs.size], _, _, H1, rfl, I1.kept (t' := s1.toks) fun b o e => Heap.get?_push_of_some _ e, turn_list a _, ⟨_, Heap.get?_push_size _ rfl, rfl, rfl⟩, fun b hb => ?_, q⟩
    have e : b = s1.heap.objs.size := by simpa using hb
    subst e
    exact I1.fpOk (Nat.le_refl _) (I1.hok.fresh (Nat.le_refl _))
  · subst e
    cases r1
    obtain ⟨its, rv, p, hz⟩ := I1.tuple hq
    refine wpAny_pyIter_tuple (show s1.heap.IsTuple a its.toArray from p) ?_
    refine ⟨s1.heap.objs.size, [s1.heap.objs.size], _, _, H1, rfl, I1.kept (t' := s1.toks) fun b o e => Heap.get?_push_of_some _ e, turn_tuple a _, ⟨_, Heap.get?_push_size _ rfl, rfl, rfl⟩, fun b hb => ?_, q⟩
    have e : b = s1.heap.objs.size := by simpa using hb
    subst e
    exact I1.fpOk (Nat.le_refl _) (I1.hok.fresh (Nat.le_refl _))
section
variable {σ : St} {B H : Hp} {te tl : TE} {oa : Option U} {K : PySem.W.Frag}
theorem ei_seq (h : EvO tl σ B H oa) : EvI (iSeq K tl) σ B H (oa.bind U.items) := fun xs e B1 H1 g R q => by
  obtain ⟨x, ex, e⟩ := bind_some e
  refine h x ex B1 H1 g _ fun v B2 H2 g2 r => ?_
  cases r with
  | @lst a ys vs h r =>
    cases e
    exact .inl ⟨a, rfl, ⟨vs, SqL.of (g2.bh _ _ h)⟩, q _ B2 H2 g2 (WalkU.of (walk_list (K := K) (a := a)) r.length (fun H s => SqL.of (s _ _ h)) r)⟩
  | @tup a ys vs h r =>
    cases e
    exact .inr ⟨a, rfl, ⟨vs, SqT.of (g2.bh _ _ h)⟩, q _ B2 H2 g2 (WalkU.of (walk_tup (K := K) (a := a)) r.length (fun H s => SqT.of (s _ _ h)) r)⟩
  | @frl a ys vs o h r =>
    cases e
    exact .inl ⟨a, rfl, ⟨_, .inl (.inr ⟨o, g2.bh _ _ h⟩)⟩, q _ B2 H2 g2 (WalkU.of (walk_list (K := K) (a := a)) r.length (fun H s => .inl (.inr ⟨o, s _ _ h⟩)) r)⟩
  | _ => cases e
/-- range -/
def rangeU (lo : Int) (n : Nat) : List U := (List.range n).map fun i => U.int (lo + (i : Nat))
theorem walk_rangeU {lo : Int} {n : Nat} {B2 : Hp} : WalkU (Itr lo n) (rangeU lo n) B2 := by
  have hl : (rangeU lo n).length = n := by simp [rangeU]
  refine ⟨fun i H hi _ => (walk_range (lo := lo) (n := n)).goes i H (by omega) trivial, fun H _ => by rw [hl]; exact (walk_range (lo := lo) (n := n)).stops H trivial, fun i H x H' B hi s1 s2 y => ?_⟩
  obtain ⟨e1, e2⟩ := (walk_range (lo := lo) (n := n)).yields i H x H' (by omega) trivial y
  subst e1 e2
  exact ⟨B, .int (lo + (i : Nat)), Go.refl s2, by simp [rangeU, show i < n by omega], .int _⟩
def rng1 : List U → Option (List U)
  | [.int j] => if j ≤ 100000 ∧ -100000 ≤ j then some (rangeU 0 j.toNat) else none
  | _ => none
def rng2 : List U → Option (List U)
  | [.int i, .int j] => if j ≤ 100000 ∧ -100000 ≤ j ∧ i ≤ 100000 ∧ -100000 ≤ i then some (rangeU i (j - i).toNat) else none
  | _ => none
theorem ei_rng1 {ta : TA} {ol : Option (List U)} (h : EvA ta σ B H ol) : EvI (iRng1 ta) σ B H (ol.bind rng1) := fun xs e B1 H1 g R q => by
  obtain ⟨x, ex, e⟩ := bind_some e
  unfold rng1 at e
  split at e
  · rename_i j
    split at e
    · rename_i hj
      cases e
      refine h _ ex B1 H1 g _ fun v B2 H2 g2 r => ?_
      cases r with
      | cons r1 t =>
        cases t
        cases r1
        exact ⟨j, rfl, by omega, by omega, q _ B2 H2 g2 walk_rangeU⟩
    · cases e
  · cases e
theorem ei_rng2 {ta : TA} {ol : Option (List U)} (h : EvA ta σ B H ol) : EvI (iRng2 ta) σ B H (ol.bind rng2) := fun xs e B1 H1 g R q => by
  obtain ⟨x, ex, e⟩ := bind_some e
  unfold rng2 at e
  split at e
  · rename_i i j
    split at e
    · rename_i hj
      cases e
      refine h _ ex B1 H1 g _ fun v B2 H2 g2 r => ?_
      cases r with
      | cons r1 t =>
        cases t with
        | cons r2 t =>
          cases t
          cases r1
          cases r2
          exact ⟨i, j, rfl, ⟨by omega, by omega, by omega, by omega⟩, q _ B2 H2 g2 walk_rangeU⟩
    · cases e
  · cases e
/-- a text, sign by sign -/
def signsU (z : Str) : List U := z.cps.toList.map fun c => U.str ⟨#[c]⟩
def U.signs : U → Option (List U)
  | .str z => some (signsU z)
  | _ => none
theorem ei_str (h : EvO te σ B H oa) : EvI (iStr te) σ B H (oa.bind U.signs) := fun xs e B1 H1 g R q => by
  obtain ⟨x, ex, e⟩ := bind_some e
  refine h x ex B1 H1 g _ fun v B2 H2 g2 r => ?_
  cases r with
  | str z =>
    cases e
    refine ⟨z, rfl, q _ B2 H2 g2 ?_⟩
    have hl : (signsU z).length = z.cps.size := by simp [signsU]
    refine ⟨fun i H hi _ => (walk_str (z := z)).goes i H (by omega) trivial, fun H _ => by rw [hl]; exact (walk_str (z := z)).stops H trivial, fun i H x H' B hi s1 s2 y => ?_⟩
    obtain ⟨e1, c, e2, e3⟩ := (walk_str (z := z)).yields i H x H' (by omega) trivial y
    subst e1 e3
    exact ⟨B, .str ⟨#[c]⟩, Go.refl s2, by simp [signsU, e2], .str _⟩
  | _ => cases e
/-! ### [e for x in xs if p] -/
def lcL (p : U → Option Bool) (f : U → Option U) : List U → Option (List U)
  | [] => some []
  | x :: r => (p x).bind fun b => if b = true then (f x).bind fun y => (lcL p f r).map fun z => y :: z else lcL p f r
def lcO (p : U → Option Bool) (f : U → Option U) (xs : List U) : Option U := if xs.length ≤ lim then (lcL p f xs).map U.lst else none
def yesO : U → Option Bool := fun _ => some true
theorem et_yes {σ : St} {B H : Hp} : EvT tYes σ B H (some true) := fun z e B1 H1 g Q q => by cases e; exact q B1 H1 (Go.refl g.bh)
theorem drop_at {xs : List U} {i : Nat} {u : U} (h : xs[i]? = some u) : xs.drop i = u :: xs.drop (i + 1) := by
  obtain ⟨hi, e⟩ := List.getElem?_eq_some_iff.mp h
  rw [List.drop_eq_getElem_cons hi, e]
/-- the general form: g binds, σ2 is what it leaves -/
theorem eo_lcG {wi : TI} {g : TG} {tt : TT} {te : TE} {vs : List Nat} {oxs : Option (List U)} {p : U → Option Bool} {f : U → Option U} (hi : EvI wi σ B H oxs)
    (hg : ∀ u v B1 H1 (Q : St → Hp → Prop) b, At B B1 H1 → Rp B1 u v → p u = some b → (∀ σ2, wipe σ2 vs = wipe σ vs → EvT tt σ2 B1 H1 (some b) → (b = true → EvO te σ2 B1 H1 (f u)) → Q σ2 H1) → g v (wipe σ vs) H1 Q) :
    EvO (tLc wi g tt te vs) σ B H (oxs.bind fun xs => lcO p f xs) := fun z e B0 H0 g0 Q q => by
  obtain ⟨xs, exs, e⟩ := bind_some e
  unfold lcO at e
  split at e
  · rename_i hlim
    obtain ⟨zs, ezs, e⟩ := map_some e
    subst e
    refine hi xs exs B0 H0 g0 _ fun J B2 H2 g2 w => fun D hD => ?_
    have w' : Walk J xs.length (fun H' => Same B2 H') (J.yld) := ⟨w.goes, w.stops, fun _ _ _ _ _ _ y => y⟩
    refine lc_it w' (fun i H' => ∃ Bi acc ys, Go B2 H2 Bi H' ∧ Bi D = none ∧ H' D = some (.lst acc) ∧ Rps Bi ys acc ∧ (lcL p f (xs.drop i)).map (fun r => ys ++ r) = some zs ∧ ys.length ≤ i) ?_ ?_ ?_ ?_
    · exact ⟨B2, [], [], Go.own g2.bh hD, g2.bh.free hD, upd_same, .nil, by simp [ezs], Nat.le_refl _⟩
    · rintro i H' _ ⟨Bi, _, _, gi, _⟩
      exact gi.b.trans gi.bh
    · rintro i x H' H'' hin ⟨Bi, acc, ys, gi, hBD, hHD, ra, hr, hy⟩ y
      obtain ⟨B', u, g', eu, ru⟩ := w.yields i H' x H'' Bi hin gi.b gi.bh y
      rw [drop_at eu] at hr
      obtain ⟨rr, err, hr⟩ := map_some hr
      obtain ⟨b, eb, err⟩ := bind_some err
      have gg : At B B' H'' := (g0.trans g2).trans (gi.trans g')
      refine hg u x B' H'' _ b gg ru eb fun σ2 hw ht hte => ⟨hw, ?_⟩
      refine ht b rfl B' H'' (Go.refl gg.bh) _ fun B3 H3 g3 => ?_
      have hB'D : B' D = none := g'.noB hBD hHD
      have hH''D : H'' D = some (.lst acc) := g'.h _ _ hHD
      cases b with
      | true =>
        obtain ⟨yv, ey, err⟩ := bind_some (show (f u).bind _ = _ from err)
        obtain ⟨r2, er2, err⟩ := map_some err
        subst err
        refine hte rfl yv ey B3 H3 g3 _ fun v4 B4 H4 g4 r4 => ?_
        have g34 := g3.trans g4
        have hB4 : B4 D = none := g34.noB hB'D hH''D
        have hH4 : H4 D = some (.lst acc) := g34.h _ _ hH''D
        refine ⟨acc, hH4, lim_lt (by have := ra.length; omega), B4, acc ++ [v4], ys ++ [yv], ((gi.trans g').trans g34).mut hD hB4, hB4, upd_same, (((ra.up g').up g34).append (.one r4)), ?_, ?_⟩
        · rw [er2]
          simp only [Option.map_some]
          rw [← hr]
          simp
        · rw [List.length_append, List.length_singleton]; omega
      | false =>
        have hB3 : B3 D = none := g3.noB hB'D hH''D
        have hH3 : H3 D = some (.lst acc) := g3.h _ _ hH''D
        refine ⟨B3, acc, ys, (gi.trans g').trans g3, hB3, hH3, (ra.up g').up g3, ?_, by omega⟩
        have err : lcL p f (xs.drop (i + 1)) = some rr := err
        rw [err]
        exact congrArg some hr
    · rintro H' ⟨Bi, acc, ys, gi, hBD, hHD, ra, hr, _⟩
      rw [List.drop_length] at hr
      have e1 : ys = zs := by simpa [lcL] using hr
      subst e1
      exact q _ (upd Bi D (.lst acc)) H' (g2.trans (gi.keep hD hBD hHD)) (.lst upd_same (ra.kp (Kp.of fun b o e => by rw [upd_ne (ne_of_none e hBD)]; exact e)))
  · cases e
/-- one name -/
theorem eo_lc {wi : TI} {tt : TT} {te : TE} {vs : List Nat} {j : Nat} {oxs : Option (List U)} {p : U → Option Bool} {f : U → Option U} (hi : EvI wi σ B H oxs) (hw : ∀ x, wipe ((wipe σ vs).set j (some x)) vs = wipe σ vs)
    (hp : ∀ u v B1 H1, At B B1 H1 → Rp B1 u v → EvT tt ((wipe σ vs).set j (some v)) B1 H1 (p u)) (hf : ∀ u v B1 H1, At B B1 H1 → Rp B1 u v → EvO te ((wipe σ vs).set j (some v)) B1 H1 (f u)) :
    EvO (tLc wi (gName j) tt te vs) σ B H (oxs.bind fun xs => lcO p f xs) :=
  eo_lcG hi fun u v B1 H1 Q b g r eb k => k _ (hw v) (by rw [← eb]; exact hp u v B1 H1 g r) fun _ => hf u v B1 H1 g r
/-- two names -/
def unp2 : U → Option (U × U)
  | .tup [a, b] => some (a, b)
  | _ => none
theorem unp2_tup {u : U} {a b : U} (h : unp2 u = some (a, b)) : u = .tup [a, b] := by
  unfold unp2 at h
  split at h
  · cases h; rfl
  · cases h
theorem g_two {i j : Nat} {u a b : U} {v : V} {B1 H1 : Hp} {σ : St} {Q : St → Hp → Prop} (s : Same B1 H1) (r : Rp B1 u v) (h : unp2 u = some (a, b)) (k : ∀ x y, Rp B1 a x → Rp B1 b y → Q ((σ.set i (some x)).set j (some y)) H1) :
    gTup K 2 (gCons (gName i) (gCons (gName j) gNil)) v σ H1 Q := by
  have e := unp2_tup h
  subst e
  cases r with
  | @tup ad _ vs e r =>
    cases r with
    | cons r1 t =>
      cases t with
      | cons r2 t =>
        cases t
        exact ⟨ad, _, rfl, SqT.of (s _ _ e), rfl, _, _, rfl, _, _, rfl, rfl, k _ _ r1 r2⟩
theorem eo_lc2n {wi : TI} {tt : TT} {te : TE} {vs : List Nat} {j1 j2 : Nat} {oxs : Option (List U)} {p : U → U → Option Bool} {f : U → U → Option U} (hi : EvI wi σ B H oxs) (hw : ∀ x y, wipe (((wipe σ vs).set j1 (some x)).set j2 (some y)) vs = wipe σ vs)
    (hp : ∀ a b v w B1 H1, At B B1 H1 → Rp B1 a v → Rp B1 b w → EvT tt (((wipe σ vs).set j1 (some v)).set j2 (some w)) B1 H1 (p a b)) (hf : ∀ a b v w B1 H1, At B B1 H1 → Rp B1 a v → Rp B1 b w → EvO te (((wipe σ vs).set j1 (some v)).set j2 (some w)) B1 H1 (f a b)) :
    EvO (tLc wi (gTup K 2 (gCons (gName j1) (gCons (gName j2) gNil))) tt te vs) σ B H (oxs.bind fun xs => lcO (fun u => (unp2 u).bind fun ab => p ab.1 ab.2) (fun u => (unp2 u).bind fun ab => f ab.1 ab.2) xs) :=
  eo_lcG hi fun u v B1 H1 Q b g r eb k => by
    obtain ⟨⟨x, y⟩, eu, eb⟩ := bind_some eb
    refine g_two g.bh r eu fun a' b' ra rb => k _ (hw a' b') (by rw [← eb]; exact hp x y a' b' B1 H1 g ra rb) fun _ => ?_
    rw [eu]
    exact hf x y a' b' B1 H1 g ra rb
end
end Dn
set_option Elab.async false
set_option linter.all false
set_option maxRecDepth 100000
set_option maxHeartbeats 2000000
namespace Dn
open PySem L2
variable [CTab]
/-! ### two clauses -/
def lc2L (p : U → Option Bool) (ys : U → Option (List U)) (p1 : U → U → Option Bool) (f : U → U → Option U) : List U → Option (List U)
  | [] => some []
  | x :: r => (p x).bind fun b => if b = true then (ys x).bind fun l => if l.length ≤ lim then (lcL (p1 x) (f x) l).bind fun a => (lc2L p ys p1 f r).map fun z => a ++ z else none else lc2L p ys p1 f r
def lc2O (p : U → Option Bool) (ys : U → Option (List U)) (p1 : U → U → Option Bool) (f : U → U → Option U) (xs : List U) : Option U := (lc2L p ys p1 f xs).bind fun zs => if zs.length ≤ lim then some (.lst zs) else none
section
variable {σ : St} {B H : Hp} {K : PySem.W.Frag}
theorem eo_lc2G {wi wi1 : TI} {g g1 : TG} {tt tt1 : TT} {te : TE} {vs vs1 : List Nat} {oxs : Option (List U)} {p : U → Option Bool} {ys : U → Option (List U)} {p1 : U → U → Option Bool} {f : U → U → Option U} (hi : EvI wi σ B H oxs)
    (hg : ∀ u v B1 H1 (Q : St → Hp → Prop) b, At B B1 H1 → Rp B1 u v → p u = some b → (∀ σ2, wipe σ2 vs = wipe σ vs → EvT tt σ2 B1 H1 (some b) → (b = true → EvI wi1 σ2 B1 H1 (ys u) ∧
      ∀ u' v' B2 H2 (Q' : St → Hp → Prop) b', At B1 B2 H2 → Rp B2 u' v' → p1 u u' = some b' → (∀ σ3, wipe σ3 vs1 = wipe σ2 vs1 → EvT tt1 σ3 B2 H2 (some b') → (b' = true → EvO te σ3 B2 H2 (f u u')) → Q' σ3 H2) → g1 v' (wipe σ2 vs1) H2 Q') → Q σ2 H1) → g v (wipe σ vs) H1 Q) :
    EvO (tLc2 wi g tt wi1 g1 tt1 te vs vs1) σ B H (oxs.bind fun xs => lc2O p ys p1 f xs) := fun z e B0 H0 g0 Q q => by
  obtain ⟨xs, exs, e⟩ := bind_some e
  obtain ⟨zs, ezs, e⟩ := bind_some e
  split at e
  · rename_i hzs
    cases e
    refine hi xs exs B0 H0 g0 _ fun J B2 H2 g2 w => fun D hD => ?_
    let Pv : Nat → Hp → Prop := fun i H' => ∃ Bi acc as, Go B2 H2 Bi H' ∧ Bi D = none ∧ H' D = some (.lst acc) ∧ Rps Bi as acc ∧ (lc2L p ys p1 f (xs.drop i)).map (fun r => as ++ r) = some zs
    refine ⟨fun i m H' => m = xs.length - i ∧ i ≤ xs.length ∧ Pv i H', ⟨xs.length, by simp, Nat.zero_le _, B2, [], [], Go.own g2.bh hD, g2.bh.free hD, upd_same, .nil, by simp [ezs]⟩, ?_⟩
    rintro i m H' ⟨rfl, hin, Bi, acc, as, gi, hBD, hHD, ra, hr⟩
    have sB : Same B2 H' := gi.b.trans gi.bh
    by_cases hlt : i < xs.length
    · refine .inr ⟨w.goes i H' hlt sB, Pv (i + 1), fun H'' p' => ⟨xs.length - (i + 1), by omega, rfl, hlt, p'⟩, fun x H'' y => ?_⟩
      obtain ⟨B', u, g', eu, ru⟩ := w.yields i H' x H'' Bi hlt gi.b gi.bh y
      rw [drop_at eu] at hr
      obtain ⟨rr, err, hr⟩ := map_some hr
      obtain ⟨b, eb, err⟩ := bind_some err
      have gg : At B B' H'' := (g0.trans g2).trans (gi.trans g')
      refine hg u x B' H'' _ b gg ru eb fun σ2 hw ht hte => ⟨hw, ?_⟩
      refine ht b rfl B' H'' (Go.refl gg.bh) _ fun B3 H3 g3 => ?_
      have hB'D : B' D = none := g'.noB hBD hHD
      have hH''D : H'' D = some (.lst acc) := g'.h _ _ hHD
      cases b with
      | false =>
        have hB3 : B3 D = none := g3.noB hB'D hH''D
        have hH3 : H3 D = some (.lst acc) := g3.h _ _ hH''D
        refine ⟨B3, acc, as, (gi.trans g').trans g3, hB3, hH3, (ra.up g').up g3, ?_⟩
        have err : lc2L p ys p1 f (xs.drop (i + 1)) = some rr := err
        rw [err]
        exact congrArg some hr
      | true =>
        obtain ⟨hI, hG1⟩ := hte rfl
        obtain ⟨l, el, err⟩ := bind_some (show (ys u).bind _ = _ from err)
        split at err
        · rename_i hl
          obtain ⟨a1, ea1, err⟩ := bind_some err
          obtain ⟨r2, er2, err⟩ := map_some err
          subst err
          refine hI l el B3 H3 g3 _ fun J1 B4 H4 g4 w1 => ?_
          have g34 : Go B' H'' B4 H4 := g3.trans g4
          have hB4D : B4 D = none := g34.noB hB'D hH''D
          have hH4D : H4 D = some (.lst acc) := g34.h _ _ hH''D
          have hrl : as.length + a1.length ≤ lim := by
            have e1 : zs = as ++ (a1 ++ r2) := hr.symm
            rw [e1] at hzs
            simp only [List.length_append] at hzs
            omega
          let Pw : Nat → Hp → Prop := fun j Hj => ∃ Bj accj bs, Go B4 H2 Bj Hj ∧ Bj D = none ∧ Hj D = some (.lst accj) ∧ Rps Bj (as ++ bs) accj ∧ (lcL (p1 u) (f u) (l.drop j)).map (fun r => bs ++ r) = some a1
          -- the position: B4 over H2, D is one's own
          have gB : Go B4 H2 B4 H4 := ⟨(gi.trans g').h.trans g34.h, Same.refl _, g34.bh, fun a o e => .inl e⟩
          refine ⟨fun j k Hj => k = l.length - j ∧ j ≤ l.length ∧ Pw j Hj ∧ True, ⟨l.length, by simp, Nat.zero_le _, ⟨B4, acc, [], gB, hB4D, hH4D, by simpa using (ra.up g').up g34, by simp [ea1]⟩, trivial⟩, ?_⟩
          rintro j k Hj ⟨rfl, hjn, ⟨Bj, accj, bs, gj, hBjD, hHjD, raj, hrj⟩, _⟩
          have sBj : Same B4 Hj := gj.b.trans gj.bh
          by_cases hjlt : j < l.length
          · refine .inr ⟨w1.goes j Hj hjlt sBj, Pw (j + 1), fun Hk p' => ⟨l.length - (j + 1), by omega, rfl, hjlt, p', trivial⟩, fun x1 Hk y1 => ?_⟩
            obtain ⟨Bk, u1, gk, eu1, ru1⟩ := w1.yields j Hj x1 Hk Bj hjlt gj.b gj.bh y1
            rw [drop_at eu1] at hrj
            obtain ⟨rj, erj, hrj⟩ := map_some hrj
            obtain ⟨b1, eb1, erj⟩ := bind_some erj
            have hBkD : Bk D = none := gk.noB hBjD hHjD
            have hHkD : Hk D = some (.lst accj) := gk.h _ _ hHjD
            have gBk : At B' Bk Hk := ⟨g34.b.trans (gj.b.trans gk.b), gk.bh⟩
            refine hG1 u1 x1 Bk Hk _ b1 gBk ru1 eb1 fun σ3 hw3 ht3 hte3 => ⟨hw3, ?_⟩
            refine ht3 b1 rfl Bk Hk (Go.refl gBk.bh) _ fun B5 H5 g5 => ?_
            have gj5 : Go B4 H2 B5 H5 := (gj.trans gk).trans g5
            have raj5 := (raj.up gk).up g5
            cases b1 with
            | true =>
              obtain ⟨yv, ey, erj⟩ := bind_some (show (f u u1).bind _ = _ from erj)
              obtain ⟨r3, er3, erj⟩ := map_some erj
              subst erj
              refine hte3 rfl yv ey B5 H5 g5 _ fun v6 B6 H6 g6 r6 => ?_
              have hB6 : B6 D = none := (g5.trans g6).noB hBkD hHkD
              have hH6 : H6 D = some (.lst accj) := (g5.trans g6).h _ _ hHkD
              refine ⟨accj, hH6, lim_lt ?_, B6, accj ++ [v6], bs ++ [yv], (gj5.trans g6).mut hD hB6, hB6, upd_same, ?_, ?_⟩
              · have e1 := raj.length
                have e2 : a1 = bs ++ (yv :: r3) := hrj.symm
                rw [e2] at hrl
                simp only [List.length_append, List.length_cons] at hrl e1
                omega
              · rw [← List.append_assoc]
                exact (raj5.up g6).append (.one r6)
              · rw [er3, ← hrj]
                simp
            | false =>
              have hB5 : B5 D = none := g5.noB hBkD hHkD
              have hH5 : H5 D = some (.lst accj) := g5.h _ _ hHkD
              refine ⟨B5, accj, bs, gj5, hB5, hH5, raj5, ?_⟩
              have erj : lcL (p1 u) (f u) (l.drop (j + 1)) = some rj := erj
              rw [erj]
              exact congrArg some hrj
          · have e1 : j = l.length := by omega
            subst e1
            rw [List.drop_length] at hrj
            have e1 : bs = a1 := by simpa [lcL] using hrj
            subst e1
            have g24 : Go B2 H2 B4 H4 := (gi.trans g').trans g34
            refine .inl ⟨w1.stops Hj sBj, Bj, accj, as ++ bs, ⟨gj.h, g24.b.trans gj.b, gj.bh, fun a o e => ?_⟩, hBjD, hHjD, raj, ?_⟩
            · rcases gj.fr a o e with e | e
              · exact g24.fr a o e
              · exact .inr e
            · rw [er2]
              rw [← hr]
              simp
        · cases err
    · have e1 : i = xs.length := by omega
      subst e1
      rw [List.drop_length] at hr
      have e1 : as = zs := by simpa [lc2L] using hr
      subst e1
      exact .inl ⟨w.stops H' sB, q _ (upd Bi D (.lst acc)) H' (g2.trans (gi.keep hD hBD hHD)) (.lst upd_same (ra.kp (Kp.of fun b o e => by rw [upd_ne (ne_of_none e hBD)]; exact e)))⟩
  · cases e
/-- one name each -/
theorem eo_lc2 {wi wi1 : TI} {tt tt1 : TT} {te : TE} {vs vs1 : List Nat} {j j1 : Nat} {oxs : Option (List U)} {p : U → Option Bool} {ys : U → Option (List U)} {p1 : U → U → Option Bool} {f : U → U → Option U} (hi : EvI wi σ B H oxs)
    (hw : ∀ x, wipe ((wipe σ vs).set j (some x)) vs = wipe σ vs) (hw1 : ∀ x y, wipe ((wipe ((wipe σ vs).set j (some x)) vs1).set j1 (some y)) vs1 = wipe ((wipe σ vs).set j (some x)) vs1)
    (hp : ∀ u v B1 H1, At B B1 H1 → Rp B1 u v → EvT tt ((wipe σ vs).set j (some v)) B1 H1 (p u)) (hy : ∀ u v B1 H1, At B B1 H1 → Rp B1 u v → EvI wi1 ((wipe σ vs).set j (some v)) B1 H1 (ys u))
    (hp1 : ∀ u v u' v' B1 H1, At B B1 H1 → Rp B1 u v → Rp B1 u' v' → EvT tt1 ((wipe ((wipe σ vs).set j (some v)) vs1).set j1 (some v')) B1 H1 (p1 u u'))
    (hf : ∀ u v u' v' B1 H1, At B B1 H1 → Rp B1 u v → Rp B1 u' v' → EvO te ((wipe ((wipe σ vs).set j (some v)) vs1).set j1 (some v')) B1 H1 (f u u')) :
    EvO (tLc2 wi (gName j) tt wi1 (gName j1) tt1 te vs vs1) σ B H (oxs.bind fun xs => lc2O p ys p1 f xs) :=
  eo_lc2G hi fun u v B1 H1 Q b g r eb k => k _ (hw v) (by rw [← eb]; exact hp u v B1 H1 g r) fun _ => ⟨hy u v B1 H1 g r, fun u' v' B2 H2 Q' b' g' r' eb' k' => by
    have gg : At B B2 H2 := g.tr g'
    exact k' _ (hw1 v v') (by rw [← eb']; exact hp1 u v u' v' B2 H2 gg (r.upA g') r') fun _ => hf u v u' v' B2 H2 gg (r.upA g') r'⟩
end
/-! ### statements -/
section
variable {σ : St} {B H B0 H0 : Hp} {K : PySem.W.Frag} {te tb : TE} {t : TT} {tu tw tz : TS} {D : Ends} {o : Option U} {r : U}
theorem q_ret (h : EvO te σ B H o) (e : o = some r) (g : Go B0 H0 B H) (k : ∀ v B2 H2, Go B0 H0 B2 H2 → Rp B2 r v → D.rt v H2) : tSeq (tRet te) tz D σ H :=
  h r e B H (Go.refl g.bh) _ fun v B2 H2 g2 r2 => k v B2 H2 (g.trans g2) r2
theorem q_asg {α : Type} {i : Nat} {f : U → Option α} {m : α} (s : Same B H) (h : EvO te σ B H o) (e : o.bind f = some m) (k : ∀ x v B1 H1, Go B H B1 H1 → Rp B1 x v → f x = some m → tz D (σ.set i (some v)) H1) : tSeq (tAsg te (gName i)) tz D σ H := by
  obtain ⟨x, ex, e⟩ := bind_some e
  exact h x ex B H (Go.refl s) _ fun v B2 H2 g2 r2 => k x v B2 H2 g2 r2 e
theorem q_expr {α : Type} {f : U → Option α} {m : α} (s : Same B H) (h : EvO te σ B H o) (e : o.bind f = some m) (k : ∀ x v B1 H1, Go B H B1 H1 → Rp B1 x v → f x = some m → tz D σ H1) : tSeq (tDrop te) tz D σ H := by
  obtain ⟨x, ex, e⟩ := bind_some e
  exact h x ex B H (Go.refl s) _ fun v B2 H2 g2 r2 => k x v B2 H2 g2 r2 e
theorem q_two {α : Type} {i j : Nat} {f : U × U → Option α} {m : α} (s : Same B H) (h : EvO te σ B H o) (e : (o.bind unp2).bind f = some m) (k : ∀ x y v w B1 H1, Go B H B1 H1 → Rp B1 x v → Rp B1 y w → f (x, y) = some m → tz D ((σ.set i (some v)).set j (some w)) H1) :
    tSeq (tAsg te (gTup K 2 (gCons (gName i) (gCons (gName j) gNil)))) tz D σ H := by
  obtain ⟨⟨x, y⟩, exy, e⟩ := bind_some e
  obtain ⟨u, eu, exy⟩ := bind_some exy
  exact h u eu B H (Go.refl s) _ fun v B2 H2 g2 r2 => g_two g2.bh r2 exy fun a b ra rb => k x y a b B2 H2 g2 ra rb e
theorem q_par {α : Type} {i j : Nat} {ta : TA} {ol : Option (List U)} {f : List U → Option α} {m : α} (s : Same B H) (h : EvA ta σ B H ol) (hn : ∀ xs, ol = some xs → ∃ x y, xs = [x, y]) (e : ol.bind f = some m)
    (k : ∀ x y v w B1 H1, Go B H B1 H1 → Rp B1 x v → Rp B1 y w → f [x, y] = some m → tz D ((σ.set i (some v)).set j (some w)) H1) : tSeq (tPar i j ta) tz D σ H := by
  obtain ⟨xs, exs, e⟩ := bind_some e
  obtain ⟨x, y, rfl⟩ := hn xs exs
  refine h _ exs B H (Go.refl s) _ fun vs B2 H2 g2 r2 => ?_
  cases r2 with
  | cons r1 t =>
    cases t with
    | cons r2 t =>
      cases t
      exact ⟨_, _, rfl, k x y _ _ B2 H2 g2 r1 r2 e⟩
theorem q_if {α : Type} {c : Option Bool} {m1 m2 : Option α} {m : α} (s : Same B H) (h : EvT t σ B H c) (e : ifO c m1 m2 = some m) (h1 : c = some true → m1 = some m → ∀ B1 H1, Go B H B1 H1 → tu { D with nx := tz D } σ H1) (h2 : c = some false → m2 = some m → ∀ B1 H1, Go B H B1 H1 → tw { D with nx := tz D } σ H1) : tSeq (tIfS t tu tw) tz D σ H := by
  obtain ⟨x, ex, e⟩ := bind_some e
  refine h x ex B H (Go.refl s) _ fun B2 H2 g2 => ?_
  cases x with
  | true => exact h1 ex e B2 H2 g2
  | false => exact h2 ex e B2 H2 g2
theorem q_for {wi : TI} {g : TG} {oxs : Option (List U)} {xs : List U} (s : Same B H) (hi : EvI wi σ B H oxs) (exs : oxs = some xs)
    (k : ∀ B2 H2, Go B H B2 H2 → ∃ R : List U → St → Hp → Hp → Prop, R xs σ B2 H2 ∧ (∀ l σ' B' H', R l σ' B' H' → Same B2 B' ∧ Same B' H') ∧
      (∀ u l v σ' B' H' B'' H'', R (u :: l) σ' B' H' → Go B' H' B'' H'' → Rp B'' u v → g v σ' H'' fun σ2 H3 => tu { D with nx := fun σ3 H4 => ∃ B4, R l σ3 B4 H4, ct := fun σ3 H4 => ∃ B4, R l σ3 B4 H4, bk := tz D } σ2 H3) ∧
      (∀ σ' B' H', R [] σ' B' H' → tz D σ' H')) : tSeq (tFor wi g tu) tz D σ H := by
  refine hi xs exs B H (Go.refl s) _ fun J B2 H2 g2 w => ?_
  obtain ⟨R, r0, rs, rt, rd⟩ := k B2 H2 g2
  have w' : Walk J xs.length (fun H' => Same B2 H') (J.yld) := ⟨w.goes, w.stops, fun _ _ _ _ _ _ y => y⟩
  refine for_it (D := { D with nx := tz D }) w' (fun i σ' H' => ∃ B', R (xs.drop i) σ' B' H') ⟨B2, r0⟩ (fun i σ' H' _ ⟨B', r⟩ => (rs _ _ _ _ r).1.trans (rs _ _ _ _ r).2) ?_ ?_
  · rintro i x σ' H' H'' hin ⟨B', r⟩ y
    obtain ⟨s1, s2⟩ := rs _ _ _ _ r
    obtain ⟨B'', u, g', eu, ru⟩ := w.yields i H' x H'' B' hin s1 s2 y
    rw [drop_at eu] at r
    exact rt u _ x σ' B' H' B'' H'' r g' ru
  · rintro σ' H' ⟨B', r⟩
    rw [List.drop_length] at r
    exact rd σ' B' H' r
end
/-! ### a def's arguments -/
def a0 (f : Option U) : List U → Option U
  | [] => f
  | _ => none
def a1 (f : U → Option U) : List U → Option U
  | [x] => f x
  | _ => none
def a2 (f : U → U → Option U) : List U → Option U
  | [x, y] => f x y
  | _ => none
def a3 (f : U → U → U → Option U) : List U → Option U
  | [x, y, z] => f x y z
  | _ => none
def a4 (f : U → U → U → U → Option U) : List U → Option U
  | [x, y, z, w] => f x y z w
  | _ => none
def a5 (f : U → U → U → U → U → Option U) : List U → Option U
  | [x, y, z, w, q] => f x y z w q
  | _ => none
section
variable {vs : List V} {H : Hp} {Q : VK} {E : XK}
theorem sp0 {f : Option U} (h : spU (a0 f) vs H Q E) : ∃ B r, vs = [] ∧ Same B H ∧ f = some r ∧ ∀ v B2 H2, Go B H B2 H2 → Rp B2 r v → Q v H2 := by
  obtain ⟨B, xs, r, s, rs, e, k⟩ := h
  match xs, rs, e with
  | [], .nil, e => exact ⟨B, r, rfl, s, e, k⟩
theorem sp1 {f : U → Option U} (h : spU (a1 f) vs H Q E) : ∃ B x v r, vs = [v] ∧ Same B H ∧ Rp B x v ∧ f x = some r ∧ ∀ v B2 H2, Go B H B2 H2 → Rp B2 r v → Q v H2 := by
  obtain ⟨B, xs, r, s, rs, e, k⟩ := h
  match xs, rs, e with
  | [x], .cons r1 .nil, e => exact ⟨B, x, _, r, rfl, s, r1, e, k⟩
theorem sp2 {f : U → U → Option U} (h : spU (a2 f) vs H Q E) : ∃ B x y v w r, vs = [v, w] ∧ Same B H ∧ Rp B x v ∧ Rp B y w ∧ f x y = some r ∧ ∀ v B2 H2, Go B H B2 H2 → Rp B2 r v → Q v H2 := by
  obtain ⟨B, xs, r, s, rs, e, k⟩ := h
  match xs, rs, e with
  | [x, y], .cons r1 (.cons r2 .nil), e => exact ⟨B, x, y, _, _, r, rfl, s, r1, r2, e, k⟩
theorem sp3 {f : U → U → U → Option U} (h : spU (a3 f) vs H Q E) : ∃ B x y z v w u r, vs = [v, w, u] ∧ Same B H ∧ Rp B x v ∧ Rp B y w ∧ Rp B z u ∧ f x y z = some r ∧ ∀ v B2 H2, Go B H B2 H2 → Rp B2 r v → Q v H2 := by
  obtain ⟨B, xs, r, s, rs, e, k⟩ := h
  match xs, rs, e with
  | [x, y, z], .cons r1 (.cons r2 (.cons r3 .nil)), e => exact ⟨B, x, y, z, _, _, _, r, rfl, s, r1, r2, r3, e, k⟩
theorem sp4 {f : U → U → U → U → Option U} (h : spU (a4 f) vs H Q E) : ∃ B x y z t v w u q r, vs = [v, w, u, q] ∧ Same B H ∧ Rp B x v ∧ Rp B y w ∧ Rp B z u ∧ Rp B t q ∧ f x y z t = some r ∧ ∀ v B2 H2, Go B H B2 H2 → Rp B2 r v → Q v H2 := by
  obtain ⟨B, xs, r, s, rs, e, k⟩ := h
  match xs, rs, e with
  | [x, y, z, t], .cons r1 (.cons r2 (.cons r3 (.cons r4 .nil))), e => exact ⟨B, x, y, z, t, _, _, _, _, r, rfl, s, r1, r2, r3, r4, e, k⟩
end
end Dn
set_option Elab.async false
set_option linter.all false
set_option maxRecDepth 100000
set_option maxHeartbeats 2000000
namespace Dn
open PySem L2
variable [CTab]
/-! ### short forms -/
def op2 (f : U → U → Option U) (a b : Option U) : Option U := a.bind fun x => b.bind fun y => f x y
def op1 (f : U → Option U) (a : Option U) : Option U := a.bind f
def isO (f : U → Option Bool) (a : Option U) : Option U := a.bind fun x => (f x).map U.bl
def slO (a : Option U) (l h : Option (Option Int)) : Option U := a.bind fun x => l.bind fun lo => h.bind fun hi => sliceV x lo hi
def ptO (a : Option U) : Option (Option Int) := (a.bind U.asI).map some
def testO (a : Option U) : Option Bool := a.bind U.asB
def callO (m : List U → Option U) (a : Option (List U)) : Option U := a.bind m
def iterO (f : U → Option (List U)) (a : Option U) : Option (List U) := a.bind f
def rngO (f : List U → Option (List U)) (a : Option (List U)) : Option (List U) := a.bind f
def compO (p : U → Option Bool) (f : U → Option U) (xs : Option (List U)) : Option U := xs.bind fun l => lcO p f l
def compO2 (p : U → U → Option Bool) (f : U → U → Option U) (xs : Option (List U)) : Option U := xs.bind fun l => lcO (fun u => (unp2 u).bind fun ab => p ab.1 ab.2) (fun u => (unp2 u).bind fun ab => f ab.1 ab.2) l
def compOO (p : U → Option Bool) (ys : U → Option (List U)) (p1 : U → U → Option Bool) (f : U → U → Option U) (xs : Option (List U)) : Option U := xs.bind fun l => lc2O p ys p1 f l
/-- a < b <= c -/
def chainO (f f' : U → U → Option U) (a b c : Option U) : Option U := a.bind fun x => b.bind fun y => (f x y).bind fun z => z.asB.bind fun k => if k = true then c.bind fun w => f' y w else some (.bl false)
section
variable {σ : St} {B H B1 H1 : Hp} {ta tb te tc : TE} {t u : TT} {oa ob oc : Option U} {K : PySem.W.Frag}
theorem eo_op2 {r : R2} {f : U → U → Option U} (hr : RV r f) (ha : EvO ta σ B H oa) (hb : EvO tb σ B H ob) : EvO (tOp r ta tb) σ B H (op2 f oa ob) := eo_op ha hb hr
theorem eo_op1 {r : V → Hp → VK → Prop} {f : U → Option U} (hr : RU r f) (ha : EvO ta σ B H oa) : EvO (tUn r ta) σ B H (op1 f oa) := eo_un ha hr
theorem eo_cb' {r : List V → Hp → VK → Prop} {f : List U → Option U} {tl : TA} {ol : Option (List U)} (hr : RC r f) (ha : EvA tl σ B H ol) : EvO (tCB r tl) σ B H (callO f ol) := eo_cb ha hr
theorem eo_chain {r r' : R2} {f f' : U → U → Option U} (hr : RV r f) (hr' : RV r' f') (ha : EvO ta σ B H oa) (hb : EvO tb σ B H ob) (hc : EvO tc σ B H oc) : EvO (tChain r r' ta tb tc) σ B H (chainO f f' oa ob oc) := fun z e B1 H1 g Q q => by
  obtain ⟨x, ex, e⟩ := bind_some e
  obtain ⟨y, ey, e⟩ := bind_some e
  obtain ⟨z1, ez, e⟩ := bind_some e
  obtain ⟨k, ek, e⟩ := bind_some e
  refine ha x ex B1 H1 g _ fun v B2 H2 g2 r2 => hb y ey B2 H2 (g.trans g2) _ fun w B3 H3 g3 r3 => hr x y z1 ez v w B3 H3 g3.bh (r2.up g3) r3 _ fun v2 B4 H4 g4 r4 => ?_
  cases z1 <;> cases ek
  cases r4
  refine ⟨k, rfl, ?_⟩
  cases k with
  | true =>
    obtain ⟨w1, ew, e⟩ := bind_some (show oc.bind _ = _ from e)
    exact hc w1 ew B4 H4 (((g.trans g2).trans g3).trans g4) _ fun v5 B5 H5 g5 r5 => hr' y w1 z e w v5 B5 H5 g5.bh ((r3.up g4).up g5) r5 Q fun v6 B6 H6 g6 r6 => q v6 B6 H6 ((((g2.trans g3).trans g4).trans g5).trans g6) r6
  | false =>
    cases e
    exact q _ B4 H4 ((g2.trans g3).trans g4) (.bl false)
end
theorem Rp.sm {B B' : Hp} {u : U} {v : V} (r : Rp B u v) (s : Same B B') : Rp B' u v := r.kp (Kp.of s)
section
variable {σ : St} {B H B0 H0 : Hp} {K : PySem.W.Frag} {te tb : TE} {t : TT} {tu tw tz : TS} {D : Ends} {o : Option U} {r : U}
theorem g_twoM {α : Type} {i j : Nat} {u : U} {v : V} {B1 H1 : Hp} {σ : St} {Q : St → Hp → Prop} {F : U × U → Option α} {m : α} (s : Same B1 H1) (r : Rp B1 u v) (e : (unp2 u).bind F = some m) (k : ∀ a b x y, Rp B1 a x → Rp B1 b y → F (a, b) = some m → Q ((σ.set i (some x)).set j (some y)) H1) :
    gTup K 2 (gCons (gName i) (gCons (gName j) gNil)) v σ H1 Q := by
  obtain ⟨⟨a, b⟩, eu, e⟩ := bind_some e
  exact g_two s r eu fun x y ra rb => k a b x y ra rb e
theorem q_forM {α : Type} {wi : TI} {g : TG} {oxs : Option (List U)} {F : List U → Option α} {m : α} (s : Same B H) (hi : EvI wi σ B H oxs) (e : oxs.bind F = some m)
    (k : ∀ xs B2 H2, F xs = some m → Go B H B2 H2 → ∃ R : List U → St → Hp → Hp → Prop, R xs σ B2 H2 ∧ (∀ l σ' B' H', R l σ' B' H' → Same B2 B' ∧ Same B' H') ∧
      (∀ u l v σ' B' H' B'' H'', R (u :: l) σ' B' H' → Go B' H' B'' H'' → Rp B'' u v → g v σ' H'' fun σ2 H3 => tu { D with nx := fun σ3 H4 => ∃ B4, R l σ3 B4 H4, ct := fun σ3 H4 => ∃ B4, R l σ3 B4 H4, bk := tz D } σ2 H3) ∧
      (∀ σ' B' H', R [] σ' B' H' → tz D σ' H')) : tSeq (tFor wi g tu) tz D σ H := by
  obtain ⟨xs, exs, e⟩ := bind_some e
  exact q_for s hi exs fun B2 H2 g2 => k xs B2 H2 e g2
end
end Dn
set_option Elab.async false
set_option linter.all false
set_option maxRecDepth 100000
set_option maxHeartbeats 2000000
namespace Dn
open PySem L2
variable [CTab]
def par2 {α : Type} (ol : Option (List U)) (f : U → U → Option α) : Option α := ol.bind fun xs => match xs with
  | [x, y] => f x y
  | _ => none
def two2 {α : Type} (o : Option U) (f : U → U → Option α) : Option α := (o.bind unp2).bind fun ab => f ab.1 ab.2
def unp2F {α : Type} (u : U) (f : U → U → Option α) : Option α := (unp2 u).bind fun ab => f ab.1 ab.2
section
variable {σ : St} {B H B0 H0 : Hp} {K : PySem.W.Frag} {te tb : TE} {t : TT} {tu tw tz : TS} {D : Ends} {o : Option U} {r : U}
theorem fall_end (g : Go B0 H0 B H) {σ : St} {Q : VK} (e : some U.non = some r) (k : ∀ v B2 H2, Go B0 H0 B2 H2 → Rp B2 r v → Q v H2) : Q .non H := by
  cases e
  exact k _ B H g .non
theorem q_par2 {α : Type} {i j : Nat} {ta : TA} {ol : Option (List U)} {f : U → U → Option α} {m : α} (s : Same B H) (h : EvA ta σ B H ol) (e : par2 ol f = some m)
    (k : ∀ x y v w B1 H1, Go B H B1 H1 → Rp B1 x v → Rp B1 y w → f x y = some m → tz D ((σ.set i (some v)).set j (some w)) H1) : tSeq (tPar i j ta) tz D σ H := by
  obtain ⟨xs, exs, e⟩ := bind_some e
  match xs, exs, e with
  | [x, y], exs, e =>
    refine h _ exs B H (Go.refl s) _ fun vs B2 H2 g2 r2 => ?_
    cases r2 with
    | cons r1 t =>
      cases t with
      | cons r2 t =>
        cases t
        exact ⟨_, _, rfl, k x y _ _ B2 H2 g2 r1 r2 e⟩
theorem q_two2 {α : Type} {i j : Nat} {f : U → U → Option α} {m : α} (s : Same B H) (h : EvO te σ B H o) (e : two2 o f = some m) (k : ∀ x y v w B1 H1, Go B H B1 H1 → Rp B1 x v → Rp B1 y w → f x y = some m → tz D ((σ.set i (some v)).set j (some w)) H1) :
    tSeq (tAsg te (gTup K 2 (gCons (gName i) (gCons (gName j) gNil)))) tz D σ H := q_two s h e k
theorem g_two2 {α : Type} {i j : Nat} {u : U} {v : V} {B1 H1 : Hp} {σ : St} {Q : St → Hp → Prop} {F : U → U → Option α} {m : α} (s : Same B1 H1) (r : Rp B1 u v) (e : unp2F u F = some m) (k : ∀ a b x y, Rp B1 a x → Rp B1 b y → F a b = some m → Q ((σ.set i (some x)).set j (some y)) H1) :
    gTup K 2 (gCons (gName i) (gCons (gName j) gNil)) v σ H1 Q := g_twoM s r e k
end
end Dn
set_option Elab.async false
set_option linter.all false
set_option maxRecDepth 100000
set_option maxHeartbeats 2000000
namespace Dn
open PySem PySem.Spec PyProof.Rows L2
variable [CTab]
/-! ### zip of two sequences, lists or tuples in any mix -/
def SqX (K : PySem.W.Frag) (H : Hp) (k : Bool) (a : Addr) (xs : List V) : Prop := if k = true then SqT K H a xs else SqL K H a xs
def IterX (k : Bool) (h : Heap) (it a : Addr) (i : Nat) : Prop := if k = true then h.IsTupleIter it a i else h.IsListIter it a i
def IsX (k : Bool) (h : Heap) (a : Addr) (its : Array Value) : Prop := if k = true then h.IsTuple a its else h.IsList a its
theorem IterX.ob {k : Bool} {h : Heap} {it a : Addr} {i : Nat} (x : IterX k h it a i) : ∃ o, h.get? it = some o ∧ ∀ v, o.data ≠ .cell v := by
  cases k with
  | true => obtain ⟨o, e, _, d⟩ := (show h.IsTupleIter it a i from x); exact ⟨o, e, fun v q => by rw [d] at q; cases q⟩
  | false => obtain ⟨o, e, _, d⟩ := (show h.IsListIter it a i from x); exact ⟨o, e, fun v q => by rw [d] at q; cases q⟩
theorem IterX.at {k : Bool} {h h' : Heap} {it a : Addr} {i : Nat} (x : IterX k h it a i) (e : ∀ o, h.get? it = some o → h'.get? it = some o) : IterX k h' it a i := by
  cases k with
  | true => exact (show h.IsTupleIter it a i from x).at e
  | false => exact (show h.IsListIter it a i from x).at e
theorem drawsX {prog : Program} {w : World} {A : Around} (hh : A.handled = none) (k : Bool) (it l : Addr) (hne : l ≠ it) (items : Array Value) :
    Draws prog w A it [it, l] items.size (fun i v => items[i]? = some v) (fun i h => IterX k h it l i ∧ IsX k h l items) := by
  cases k with
  | true => exact Draws.tuple hh it l hne items
  | false => exact Draws.list hh it l hne items
theorem sqx_of {X : Cx} {pins : List (Addr × Obj)} {σ : L2.St} {H : Hp} {s : Shared} {k : Bool} {a : Addr} {xs : List V} (I : Inv X pins σ H s) (h : SqX X.K H k a xs) : ∃ its : List Value, Vals xs its ∧ IsX k s.heap a its.toArray ∧ a < s.heap.objs.size := by
  cases k with
  | true => obtain ⟨its, r, p, _⟩ := I.tuple (show SqT X.K H a xs from h); exact ⟨its, r, p, p.lt⟩
  | false => obtain ⟨its, r, p, _⟩ := I.list (show SqL X.K H a xs from h); exact ⟨its, r, p.isList, p.lt⟩
theorem sqx_inj {X : Cx} {pins : List (Addr × Obj)} {σ : L2.St} {H : Hp} {s : Shared} {k : Bool} {a : Addr} {xs ys : List V} (I : Inv X pins σ H s) (h : SqX X.K H k a xs) (h' : SqX X.K H k a ys) : xs = ys := by
  cases k with
  | true => exact I.tuple_inj h h'
  | false => exact I.list_inj h h'
def ItzX (K : PySem.W.Frag) (ka kb : Bool) (a b : Addr) : It :=
  ⟨fun i H => ∃ (xs ys : List V) (x y : V), SqX K H ka a xs ∧ SqX K H kb b ys ∧ xs[i]? = some x ∧ ys[i]? = some y,
    fun i H v H' => ∃ T x y, v = .ref T ∧ H T = none ∧ H' = upd H T (.tup [x, y]) ∧ (∀ xs, SqX K H ka a xs → xs[i]? = some x) ∧ ∀ ys, SqX K H kb b ys → ys[i]? = some y,
    fun i H => ∃ xs ys : List V, SqX K H ka a xs ∧ SqX K H kb b ys ∧ i ≤ xs.length ∧ i ≤ ys.length ∧ (i = xs.length ∨ i = ys.length)⟩
theorem turn_zipX {P : Program} {w : World} {K : PySem.W.Frag} {elts : List Expr} {kk : Nat} {tpos : Pos} {ka kb : Bool} {a b z TI TO i1 i2 : Addr} (D : ZipSep2 z TI TO i1 i2 [i1, a] [i2, b]) (na : a ≠ i1) (nb : b ≠ i2) :
    Turn P w K (.Tuple elts kk tpos) (ItzX K ka kb a b) [z, TI, TO, i1, i2] z (fun i h => IsZip h z TI TO .none ∧ IsTupOf2 h TI (.ref i1) (.ref i2) ∧ (∃ x y, IsTupOf2 h TO x y) ∧ IterX ka h i1 a i ∧ IterX kb h i2 b i) where
  mem := by simp
  obj := fun i h st c hc => by
    obtain ⟨hz, hTI, ⟨x, y, hTO⟩, h1, h2⟩ := st
    have e' : c = z ∨ c = TI ∨ c = TO ∨ c = i1 ∨ c = i2 := by simpa using hc
    rcases e' with q | q | q | q | q
    · rw [q]; exact ⟨_, hz, fun v q => nomatch q⟩
    · rw [q]; exact ⟨_, hTI, fun v q => nomatch q⟩
    · rw [q]; exact ⟨_, hTO, fun v q => nomatch q⟩
    · rw [q]; exact h1.ob
    · rw [q]; exact h2.ob
  keep := fun i h h' st k => by
    obtain ⟨hz, hTI, ⟨x, y, hTO⟩, h1, h2⟩ := st
    exact ⟨k z (by simp) _ hz, k TI (by simp) _ hTI, ⟨x, y, k TO (by simp) _ hTO⟩, h1.at fun o q => k i1 (by simp) o q, h2.at fun o q => k i2 (by simp) o q⟩
  item := by
    intro X hP hw hK hc i pins s σ H E I hf st hg
    subst hP hw hK
    obtain ⟨hz, hTI, ⟨x0, y0, hTO⟩, h1, h2⟩ := st
    obtain ⟨xs, ys, x, y, hqx, hqy, hx, hy⟩ := hg
    obtain ⟨its, rv, p, la⟩ := sqx_of I hqx
    obtain ⟨its2, rv2, p2, lb⟩ := sqx_of I hqy
    obtain ⟨u, hu, ru⟩ := rv.get hx
    obtain ⟨u2, hu2, ru2⟩ := rv2.get hy
    have hzl : z < s.heap.objs.size := Heap.lt_size hz
    have hh : X.A.in1.handled = none := I.ok.hd hc
    have hi1 : i < its.toArray.size := by simpa using (List.getElem?_eq_some_iff.mp hu).1
    have hi2 : i < its2.toArray.size := by simpa using (List.getElem?_eq_some_iff.mp hu2).1
    refine wpAny_pyNext_zipD2_item D (drawsX hh ka i1 a na its.toArray) (drawsX hh kb i2 b nb its2.toArray) hz hTI hTO ⟨h1, p⟩ ⟨h2, p2⟩ hi1 hi2 fun x1 x2 h' tk e1 e2 z' TO' st1' st2' hT hsz hk => ?_
    have ex1 : x1 = u := by
      have : its[i]? = some x1 := by simpa using e1
      rw [hu] at this; cases this; rfl
    have ex2 : x2 = u2 := by
      have : its2[i]? = some x2 := by simpa using e2
      rw [hu2] at this; cases this; rfl
    subst ex1 ex2
    refine ⟨_, rfl, wpAny_letOwnedTupleGo_zip (s := { s with heap := h', toks := tk }) z' fun h'' z'' sb => ?_⟩
    have hT2 : h''.get? s.heap.objs.size = some { cls := .type "tuple", data := .seq #[x1, x2] } := (sb.2 _ (Nat.ne_of_gt hzl)).trans hT
    have new : ObjOk X.prog X.w (upd H s.heap.objs.size (.tup [x, y])) h'' s.heap.objs.size (.tup [x, y]) :=
      ⟨by show 2 ≤ sizeLine; decide, [x1, x2], .cons ru (.cons ru2 .nil), ⟨_, hT2, rfl, _, rfl⟩⟩
    have I1 : Inv X pins σ (upd H s.heap.objs.size (.tup [x, y])) { s with heap := h'', toks := tk } :=
      I.turnedNew (t' := tk) (ch := [z, TI, TO, i1, i2]) (fun c o hb q => (sb.2 c (fun q' => hb (by simp [q']))).trans (hk c o (fun q' => hb (by simp [q'])) (fun q' => hb (by simp [q'])) (fun q' => hb (by simp [q'])) (fun q' => hb (by simp [q'])) q)) hf (Nat.le_refl _) new
    refine ⟨.ref s.heap.objs.size, _, I1, rfl, ⟨_, x, y, rfl, I.hok.fresh (Nat.le_refl _), rfl, fun l hl => by rw [sqx_inj I hl hqx]; exact hx, fun l hl => by rw [sqx_inj I hl hqy]; exact hy⟩, ⟨z'', ?_, ⟨x1, x2, ?_⟩, ?_, ?_⟩, fun c hcm => ?_⟩
    · exact (sb.2 _ D.TIz).trans (hk _ _ D.TIz D.TITO D.TIi1 D.TIi2 hTI)
    · exact (sb.2 _ D.TOz).trans TO'
    · exact st1'.1.at fun o q => (sb.2 _ D.zi1.symm).trans q
    · exact st2'.1.at fun o q => (sb.2 _ D.zi2.symm).trans q
    · have hlt : c < s.heap.objs.size := by
        have e' : c = z ∨ c = TI ∨ c = TO ∨ c = i1 ∨ c = i2 := by simpa using hcm
        rcases e' with q | q | q | q | q
        · rw [q]; exact hzl
        · rw [q]; exact Heap.lt_size hTI
        · rw [q]; exact Heap.lt_size hTO
        · rw [q]; obtain ⟨_, e1, _⟩ := h1.ob; exact Heap.lt_size e1
        · rw [q]; obtain ⟨_, e2, _⟩ := h2.ob; exact Heap.lt_size e2
      rw [upd_ne (Nat.ne_of_lt hlt)]
      exact (hf c hcm).1
  done := by
    intro X hP hw hK hc i pins s σ H E I hf st hg
    subst hP hw hK
    obtain ⟨hz, hTI, ⟨x0, y0, hTO⟩, h1, h2⟩ := st
    obtain ⟨xs, ys, hqx, hqy, hle1, hle2, hend⟩ := hg
    obtain ⟨its, rv, p, _⟩ := sqx_of I hqx
    obtain ⟨its2, rv2, p2, _⟩ := sqx_of I hqy
    have l1 := rv.length
    have l2 := rv2.length
    have hh : X.A.in1.handled = none := I.ok.hd hc
    exact wpAny_pyNext_zipD2_end D (drawsX hh ka i1 a na its.toArray) (drawsX hh kb i2 b nb its2.toArray) hz hTI hTO ⟨h1, p⟩ ⟨h2, p2⟩ (by simp; omega) (by simp; omega) (by simp; omega) fun h' tk hk => ⟨rfl, I.turnedL (t' := tk) (ch := [z, TI, TO, i1, i2]) (fun c o hb q =>
      hk c o (fun q' => hb (by simp [q'])) (fun q' => hb (by simp [q'])) (fun q' => hb (by simp [q'])) (fun q' => hb (by simp [q'])) q) hf⟩
  self := fun A i s Q E st h => wpAny_pyIter_zip st.1 h
def iZipU (K : PySem.W.Frag) (ta : TA) : TI := fun σ H R => ta σ H fun vs H1 => ∃ ka kb a b xs ys, vs = [.ref a, .ref b] ∧ SqX K H1 ka a xs ∧ SqX K H1 kb b ys ∧ R (ItzX K ka kb a b) H1
theorem beginsX (k : Bool) (a : Addr) (its : Array Value) : ∃ o : Obj, Begins (.ref a) o (fun h => IsX k h a its) ∧ ∀ (h : Heap) (it : Addr), h.get? it = some o → IterX k h it a 0 := by
  cases k with
  | true => exact ⟨_, begins_tuple a its, fun h it e => ⟨_, e, rfl, rfl⟩⟩
  | false => exact ⟨_, begins_list a its, fun h it e => ⟨_, e, rfl, rfl⟩⟩
theorem pi_zipU {X : Cx} {e e2 : Expr} {ta tb : TE} {p pos tpos : Pos} {elts : List Expr} {kk : Nat} (hg : Gl X "zip") (hm : X.mg "zip" = none) (h1 : PE X e ta) (h2 : PE X e2 tb)
    (he1 : starEach [e, e2] X.env = (false, eval e X.env) :: starEach [e2] X.env := by rfl) (he2 : starEach [e2] X.env = (false, eval e2 X.env) :: starEach [] X.env := by rfl) (hpl : (backTo pos (starEach [e2] X.env)).any (·.1) = false := by rfl) :
    PI X (.Tuple elts kk tpos) (.Call (.Name "zip" p) [e, e2] [] pos) (iZipU X.K (tCons ta (tCons tb tNil))) := by
  have ha : PA X [e, e2] (tCons ta (tCons tb tNil)) := pa_cons h1 (pa_cons h2 pa_nil he2) he1
  refine ⟨fun pins s σ H R I h => ?_⟩
  refine Call_ (ld_blt I hg hm PyProof.Rows.boot_zip (PyProof.Rows.callWith_type1 (thn (ha.run pos pins s σ H _ I h) fun us s1 ⟨vs, H1, I1, r1, q1⟩ => ?_) he1 hpl))
  obtain ⟨ka, kb, a, b, xs, ys, ex, hqx, hqy, q⟩ := q1
  subst ex
  cases r1 with
  | cons r rr =>
    cases rr with
    | cons r' rr =>
      cases rr
      cases r
      cases r'
      obtain ⟨its, rv, p1, la⟩ := sqx_of I1 hqx
      obtain ⟨its2, rv2, p2, lb⟩ := sqx_of I1 hqy
      obtain ⟨o1, b1, it1⟩ := beginsX ka a its.toArray
      obtain ⟨o2, b2, it2⟩ := beginsX kb b its2.toArray
      refine zip_begins2 b1 b2 p1 p2 fun h' hz hTI hTO g1 g2 hsz hk => wpAny_pyIter_zip hz ?_
      have I2 : Inv X pins σ H1 { s1 with heap := h' } := I1.kept (t' := s1.toks) hk
      refine ⟨s1.heap.objs.size + 4, [s1.heap.objs.size + 4, s1.heap.objs.size + 2, s1.heap.objs.size + 3, s1.heap.objs.size, s1.heap.objs.size + 1], _, _, H1, rfl, I2,
        turn_zipX (zip_sep2 (fp1 := [a]) (fp2 := [b]) (by simpa using la) (by simpa using lb)) (Nat.ne_of_lt la) (Nat.ne_of_lt (Nat.lt_succ_of_lt lb)), ⟨hz, hTI, ⟨_, _, hTO⟩, it1 _ _ g1, it2 _ _ g2⟩, fun c hcm => ?_, q⟩
      have e' : c = s1.heap.objs.size + 4 ∨ c = s1.heap.objs.size + 2 ∨ c = s1.heap.objs.size + 3 ∨ c = s1.heap.objs.size ∨ c = s1.heap.objs.size + 1 := by simpa using hcm
      have hle : s1.heap.objs.size ≤ c := by
        rcases e' with z | z | z | z | z
        · rw [z]; exact Nat.le_add_right _ _
        · rw [z]; exact Nat.le_add_right _ _
        · rw [z]; exact Nat.le_add_right _ _
        · rw [z]; exact Nat.le_refl _
        · rw [z]; exact Nat.le_add_right _ _
      exact I1.fpOk hle (I1.hok.fresh hle)
def zipL : List U → List U → List U
  | x :: xs, y :: ys => .tup [x, y] :: zipL xs ys
  | _, _ => []
theorem zipL_length : ∀ (xs ys : List U), (zipL xs ys).length = min xs.length ys.length
  | [], _ => by simp [zipL]
  | _ :: _, [] => by simp [zipL]
  | x :: xs, y :: ys => by simp [zipL, zipL_length xs ys]
theorem zipL_get : ∀ {xs ys : List U} {i : Nat} {x y : U}, xs[i]? = some x → ys[i]? = some y → (zipL xs ys)[i]? = some (.tup [x, y])
  | [], _, i, x, y, h, _ => by simp at h
  | _ :: _, [], i, x, y, _, h => by simp at h
  | a :: xs, b :: ys, 0, x, y, h, h' => by simp at h h'; subst h h'; rfl
  | a :: xs, b :: ys, i + 1, x, y, h, h' => by
    have := zipL_get (xs := xs) (ys := ys) (i := i) (x := x) (y := y) (by simpa using h) (by simpa using h')
    simpa [zipL] using this
def zipO (a b : Option U) : Option (List U) := a.bind fun x => b.bind fun y => x.items.bind fun xs => y.items.map fun ys => zipL xs ys
theorem sqx_items {K : PySem.W.Frag} {x : U} {xs : List U} {v : V} {B : Hp} (h : x.items = some xs) (r : Rp B x v) : ∃ k a vs, v = .ref a ∧ Rps B xs vs ∧ ∀ H, Same B H → SqX K H k a vs := by
  cases r with
  | @lst a _ vs e r => cases h; exact ⟨false, a, vs, rfl, r, fun H s => SqL.of (s _ _ e)⟩
  | @tup a _ vs e r => cases h; exact ⟨true, a, vs, rfl, r, fun H s => SqT.of (s _ _ e)⟩
  | @frl a _ vs o e r => cases h; exact ⟨false, a, vs, rfl, r, fun H s => .inl (.inr ⟨o, s _ _ e⟩)⟩
  | _ => cases h
section
variable {σ : L2.St} {B H : Hp} {ta tb : TE} {oa ob : Option U} {K : PySem.W.Frag}
theorem ei_zip (ha : EvO ta σ B H oa) (hb : EvO tb σ B H ob) : EvI (iZipU K (tCons ta (tCons tb tNil))) σ B H (zipO oa ob) := fun zs e B1 H1 g R q => by
  obtain ⟨x, ex, e⟩ := bind_some e
  obtain ⟨y, ey, e⟩ := bind_some e
  obtain ⟨xs, exs, e⟩ := bind_some e
  obtain ⟨ys, eys, e⟩ := map_some e
  subst e
  refine ha x ex B1 H1 g _ fun v B2 H2 g2 r2 => hb y ey B2 H2 (g.trans g2) _ fun w B3 H3 g3 r3 => ?_
  obtain ⟨ka, a, vs, rfl, ra, sa⟩ := sqx_items (K := K) exs (r2.up g3)
  obtain ⟨kb, b, ws, rfl, rb, sb⟩ := sqx_items (K := K) eys r3
  refine ⟨ka, kb, a, b, vs, ws, rfl, sa H3 g3.bh, sb H3 g3.bh, q _ B3 H3 (g2.trans g3) ?_⟩
  have l1 := ra.length
  have l2 := rb.length
  have hl := zipL_length xs ys
  refine ⟨fun i H' hi s => ?_, fun H' s => ?_, fun i H' v H'' B' hi s1 s2 y => ?_⟩
  · have h1 : i < vs.length := by omega
    have h2 : i < ws.length := by omega
    exact ⟨vs, ws, vs[i], ws[i], sa H' s, sb H' s, by simp [h1], by simp [h2]⟩
  · rw [hl]
    exact ⟨vs, ws, sa H' s, sb H' s, by omega, by omega, by omega⟩
  · obtain ⟨T, x1, y1, e1, e2, e3, f1, f2⟩ := y
    subst e1 e3
    obtain ⟨u1, eu1, ru1⟩ := ra.back (f1 vs (sa H' (s1.trans s2)))
    obtain ⟨u2, eu2, ru2⟩ := rb.back (f2 ws (sb H' (s1.trans s2)))
    exact ⟨_, _, Go.new s2 e2, zipL_get eu1 eu2, .tup upd_same ((Rps.cons (ru1.kp (Kp.of s1)) (.cons (ru2.kp (Kp.of s1)) .nil)).new s2 e2)⟩
end
end Dn
set_option Elab.async false
set_option linter.all false
set_option maxRecDepth 100000
set_option maxHeartbeats 2000000
namespace Dn
open PySem L2
variable [CTab]
/-! ### steps that change one's own objects -/
structure Gs (M : Addr → Prop) (B H B2 H2 : Hp) : Prop where
  h : ∀ a o, H a = some o → ¬ M a → H2 a = some o
  n : ∀ a, H2 a = none → H a = none
  b : Same B B2
  bh : Same B2 H2
  fr : ∀ a o, B2 a = some o → B a = some o ∨ H a = none ∨ M a
section
variable {M M' : Addr → Prop} {B H B1 H1 B2 H2 B3 H3 : Hp}
theorem Gs.of (g : Go B H B2 H2) : Gs M B H B2 H2 := ⟨fun a o e _ => g.h a o e, fun a e => g.h.free e, g.b, g.bh, fun a o e => (g.fr a o e).imp_right .inl⟩
theorem Gs.go (g : Gs (fun _ => False) B H B2 H2) : Go B H B2 H2 := ⟨fun a o e => g.h a o e id, g.b, g.bh, fun a o e => by
  rcases g.fr a o e with e | e | e
  · exact .inl e
  · exact .inr e
  · exact e.elim⟩
theorem Gs.refl (s : Same B H) : Gs M B H B H := .of (Go.refl s)
theorem Gs.trans (x : Gs M B H B2 H2) (y : Gs M B2 H2 B3 H3) : Gs M B H B3 H3 :=
  ⟨fun a o e hm => y.h a o (x.h a o e hm) hm, fun a e => x.n a (y.n a e), x.b.trans y.b, y.bh, fun a o e => by
    rcases y.fr a o e with e | e | e
    · exact x.fr a o e
    · exact .inr (.inl (x.n a e))
    · exact .inr (.inr e)⟩
theorem Gs.mono (x : Gs M B H B2 H2) (h : ∀ a, M a → M' a) : Gs M' B H B2 H2 := ⟨fun a o e hm => x.h a o e fun z => hm (h a z), x.n, x.b, x.bh, fun a o e => by
    rcases x.fr a o e with e | e | e
    · exact .inl e
    · exact .inr (.inl e)
    · exact .inr (.inr (h a e))⟩
theorem Gs.noB {p : Addr} {o : HO} (g : Gs M B H B2 H2) (hb : B p = none) (hp : H p = some o) (hM : ¬ M p) : B2 p = none := by
  cases q : B2 p with
  | none => rfl
  | some u =>
    rcases g.fr p u q with z | z | z
    · rw [hb] at z; cases z
    · rw [hp] at z; cases z
    · exact absurd z hM
theorem At.trs (x : At B B1 H1) (y : Gs M B1 H1 B2 H2) : At B B2 H2 := ⟨x.b.trans y.b, y.bh⟩
theorem Gs.at (g : Gs M B H B2 H2) : At B B2 H2 := ⟨g.b, g.bh⟩
/-- what changes below the base: what the base lets, or what is not there yet -/
theorem Gs.base {B0 H0 : Hp} (x : Gs M B0 H0 B H) (y : Gs M' B H B2 H2) (h : ∀ a, M' a → M a ∨ H0 a = none) : Gs M B0 H0 B2 H2 :=
  ⟨fun a o e hm => y.h a o (x.h a o e hm) fun z => by
      rcases h a z with z | z
      · exact hm z
      · (rw [e] at z; exact nomatch z), fun a e => x.n a (y.n a e), x.b.trans y.b, y.bh, fun a o e => by
    rcases y.fr a o e with e | e | e
    · exact x.fr a o e
    · exact .inr (.inl (x.n a e))
    · rcases h a e with e | e
      · exact .inr (.inr e)
      · exact .inr (.inl e)⟩
end
def U.own : U → Bool
  | .frl _ | .dic _ | .dit _ => true
  | _ => false
/-- one's own object at p -/
def OwnAt (B H : Hp) (p : Addr) : U → Prop
  | .frl xs => ∃ vs, H p = some (.lst vs) ∧ Rps B xs vs
  | .dic kvs => ∃ es, H p = some (.dK es) ∧ Rpk B kvs es
  | .dit kvs => ∃ es, H p = some (.dT es) ∧ Rpt B kvs es
  | _ => False
theorem OwnAt.own {B H : Hp} {p : Addr} {u : U} (h : OwnAt B H p u) : u.own = true := by
  cases u <;> first | rfl | exact h.elim
theorem OwnAt.ex {B H : Hp} {p : Addr} {u : U} (h : OwnAt B H p u) : ∃ o, H p = some o := by
  cases u with
  | frl xs => obtain ⟨_, e, _⟩ := h; exact ⟨_, e⟩
  | dic xs => obtain ⟨_, e, _⟩ := h; exact ⟨_, e⟩
  | dit xs => obtain ⟨_, e, _⟩ := h; exact ⟨_, e⟩
  | _ => exact h.elim
theorem OwnAt.up {B H B2 H2 : Hp} {p : Addr} {u : U} (h : OwnAt B H p u) (e : ∀ o, H p = some o → H2 p = some o) (s : Same B B2) : OwnAt B2 H2 p u := by
  cases u with
  | frl xs => obtain ⟨vs, h1, r⟩ := h; exact ⟨vs, e _ h1, r.kp (Kp.of s)⟩
  | dic xs => obtain ⟨vs, h1, r⟩ := h; exact ⟨vs, e _ h1, r.kp (Kp.of s)⟩
  | dit xs => obtain ⟨vs, h1, r⟩ := h; exact ⟨vs, e _ h1, r.kp (Kp.of s)⟩
  | _ => exact h.elim
/-- .non: it is taken away, nothing is said -/
structure OwP (M : Addr → Prop) (B H : Hp) (p : Addr) (u : U) : Prop where
  m : M p
  ex : ∃ o, H p = some o
  at_ : u = .non ∨ (B p = none ∧ OwnAt B H p u)
theorem OwP.own {M : Addr → Prop} {B H : Hp} {p : Addr} {u : U} (w : OwP M B H p u) (h : u.own = true) : B p = none ∧ OwnAt B H p u := by
  rcases w.at_ with e | e
  · subst e; cases h
  · exact e
structure Ows (M : Addr → Prop) (B H : Hp) (ps : List Addr) (us : List U) : Prop where
  len : us.length = ps.length
  nd : ∀ (i j : Nat) p, ps[i]? = some p → ps[j]? = some p → i = j
  at_ : ∀ (j : Nat) p u, ps[j]? = some p → us[j]? = some u → OwP M B H p u
abbrev inP (ps : List Addr) : Addr → Prop := fun a => a ∈ ps
section
variable {M : Addr → Prop} {B H B1 H1 B2 H2 : Hp} {ps : List Addr} {us : List U}
theorem ows_nil : Ows M B H [] [] := ⟨rfl, fun i j p h => by simp at h, fun j p u h => by simp at h⟩
theorem Ows.get (w : Ows M B H ps us) {j : Nat} {u : U} (h : us[j]? = some u) : ∃ p, ps[j]? = some p ∧ OwP M B H p u := by
  have hl : j < ps.length := by rw [← w.len]; exact (List.getElem?_eq_some_iff.mp h).1
  exact ⟨ps[j], by simp [hl], w.at_ j _ u (by simp [hl]) h⟩
theorem Ows.ofMem (w : Ows M B H ps us) {p : Addr} (h : p ∈ ps) : ∃ (j : Nat) (u : U), ps[j]? = some p ∧ us[j]? = some u ∧ OwP M B H p u := by
  obtain ⟨j, hj, e⟩ := List.getElem_of_mem h
  have hl : j < us.length := by rw [w.len]; exact hj
  exact ⟨j, us[j], by simp [hj, e], by simp [hl], w.at_ j p _ (by simp [hj, e]) (by simp [hl])⟩
theorem Ows.exs (w : Ows M B H ps us) {p : Addr} (h : p ∈ ps) : ∃ o, H p = some o := by
  obtain ⟨j, u, _, _, q⟩ := w.ofMem h
  exact q.ex
theorem Ows.ms (w : Ows M B H ps us) {p : Addr} (h : p ∈ ps) : M p := by
  obtain ⟨j, u, _, _, q⟩ := w.ofMem h
  exact q.m
theorem Ows.fresh (w : Ows M B H ps us) {p : Addr} (h : H p = none) : p ∉ ps := fun z => by
  obtain ⟨o, e⟩ := w.exs z
  rw [h] at e; cases e
/-- nothing of one's own has changed -/
theorem Ows.keep (w : Ows M B H ps us) (e : ∀ p ∈ ps, ∀ o, H p = some o → H2 p = some o) (s : Same B B2) (hb : ∀ p ∈ ps, B p = none → B2 p = none) : Ows M B2 H2 ps us :=
  ⟨w.len, w.nd, fun j p u hp hu => by
    have hm : p ∈ ps := List.mem_of_getElem? hp
    obtain ⟨q1, ⟨o, q2⟩, q3⟩ := w.at_ j p u hp hu
    refine ⟨q1, ⟨o, e p hm o q2⟩, ?_⟩
    rcases q3 with q3 | ⟨q3, q4⟩
    · exact .inl q3
    · exact .inr ⟨hb p hm q3, q4.up (e p hm) s⟩⟩
theorem Ows.go (w : Ows M B H ps us) (g : Go B H B2 H2) : Ows M B2 H2 ps us := w.keep (fun p _ o e => g.h p o e) g.b fun p hp hb => by
  obtain ⟨o, e⟩ := w.exs hp
  exact g.noB hb e
theorem Ows.set (w : Ows M B H ps us) {j : Nat} {p : Addr} {u : U} (hp : ps[j]? = some p) (e : ∀ q ∈ ps, q ≠ p → ∀ o, H q = some o → H2 q = some o) (s : Same B B2) (hb : ∀ q ∈ ps, q ≠ p → B q = none → B2 q = none) (n : OwP M B2 H2 p u) : Ows M B2 H2 ps (us.set j u) := by
  have hj : j < us.length := by rw [w.len]; exact (List.getElem?_eq_some_iff.mp hp).1
  refine ⟨by rw [List.length_set, w.len], w.nd, fun i q v hq hv => ?_⟩
  by_cases hij : i = j
  · subst hij
    rw [hp] at hq; cases hq
    rw [List.getElem?_set_self hj] at hv; cases hv
    exact n
  · rw [List.getElem?_set_ne (Ne.symm hij)] at hv
    have hm : q ∈ ps := List.mem_of_getElem? hq
    have hne : q ≠ p := fun z => hij (w.nd i j q hq (by rw [z]; exact hp))
    obtain ⟨q1, ⟨o, q2⟩, q3⟩ := w.at_ i q v hq hv
    refine ⟨q1, ⟨o, e q hm hne o q2⟩, ?_⟩
    rcases q3 with q3 | ⟨q3, q4⟩
    · exact .inl q3
    · exact .inr ⟨hb q hm hne q3, q4.up (e q hm hne) s⟩
/-- one more -/
theorem Ows.add (w : Ows M B H ps us) {p : Addr} {u : U} (hn : p ∉ ps) (n : OwP M B H p u) : Ows M B H (ps ++ [p]) (us ++ [u]) := by
  refine ⟨by simp [w.len], ?_, fun j q v hq hv => ?_⟩
  · intro a b q ha hb
    have key : ∀ (a : Nat), (ps ++ [p])[a]? = some q → (a < ps.length ∧ ps[a]? = some q) ∨ (a = ps.length ∧ q = p) := fun a ha => by
      by_cases hj : a < ps.length
      · rw [List.getElem?_append_left hj] at ha
        exact .inl ⟨hj, ha⟩
      · rw [List.getElem?_append_right (by omega)] at ha
        have e : a - ps.length = 0 := by
          have := (List.getElem?_eq_some_iff.mp ha).1
          simp at this; omega
        rw [e] at ha
        cases ha
        exact .inr ⟨by omega, rfl⟩
    rcases key a ha with ⟨_, h1⟩ | ⟨h1, h1'⟩
    · rcases key b hb with ⟨_, h2⟩ | ⟨h2, h2'⟩
      · exact w.nd a b q h1 h2
      · exact absurd (List.mem_of_getElem? h1) (h2' ▸ hn)
    · rcases key b hb with ⟨_, h2⟩ | ⟨h2, h2'⟩
      · exact absurd (List.mem_of_getElem? h2) (h1' ▸ hn)
      · omega
  · by_cases hj : j < ps.length
    · rw [List.getElem?_append_left hj] at hq
      rw [List.getElem?_append_left (by rw [w.len]; exact hj)] at hv
      exact w.at_ j q v hq hv
    · rw [List.getElem?_append_right (by omega)] at hq
      rw [List.getElem?_append_right (by rw [w.len]; omega)] at hv
      rw [w.len] at hv
      have e : j - ps.length = 0 := by
        have := (List.getElem?_eq_some_iff.mp hq).1
        simp at this; omega
      rw [e] at hq hv
      cases hq; cases hv
      exact n
/-- another one in its place -/
theorem Ows.swap (w : Ows M B H ps us) {j : Nat} {p : Addr} {u : U} (hj : j < ps.length) (hn : p ∉ ps) (n : OwP M B H p u) : Ows M B H (ps.set j p) (us.set j u) := by
  refine ⟨by simp [w.len], ?_, fun i q v hq hv => ?_⟩
  · intro a b q ha hb
    by_cases e1 : a = j
    · by_cases e2 : b = j
      · omega
      · subst e1
        rw [List.getElem?_set_self hj] at ha
        rw [List.getElem?_set_ne (Ne.symm e2)] at hb
        cases ha
        exact absurd (List.mem_of_getElem? hb) hn
    · by_cases e2 : b = j
      · subst e2
        rw [List.getElem?_set_self hj] at hb
        rw [List.getElem?_set_ne (Ne.symm e1)] at ha
        cases hb
        exact absurd (List.mem_of_getElem? ha) hn
      · rw [List.getElem?_set_ne (Ne.symm e1)] at ha
        rw [List.getElem?_set_ne (Ne.symm e2)] at hb
        exact w.nd a b q ha hb
  · by_cases e1 : i = j
    · subst e1
      rw [List.getElem?_set_self hj] at hq
      rw [List.getElem?_set_self (by rw [w.len]; exact hj)] at hv
      cases hq; cases hv
      exact n
    · rw [List.getElem?_set_ne (Ne.symm e1)] at hq hv
      exact w.at_ i q v hq hv
theorem Ows.take (w : Ows M B H ps us) (n : Nat) : Ows M B H (ps.take n) (us.take n) := by
  refine ⟨by simp [w.len], fun i j p h1 h2 => ?_, fun j p u hp hu => ?_⟩
  · rw [List.getElem?_take] at h1 h2
    split at h1
    · split at h2
      · exact w.nd i j p h1 h2
      · cases h2
    · cases h1
  rw [List.getElem?_take] at hp hu
  split at hp
  · rename_i hj
    rw [if_pos hj] at hu
    exact w.at_ j p u hp hu
  · cases hp
end
/-! ### the state: what one's own objects have in them -/
abbrev SM (α : Type) := List U → Option (α × List U)
def pureS {α : Type} (o : Option α) : SM α := fun us => o.map fun x => (x, us)
def bindS {α β : Type} (F : SM α) (k : α → SM β) : SM β := fun us => (F us).bind fun r => k r.1 r.2
theorem pureS_some {α : Type} {o : Option α} {us : List U} {x : α} {us' : List U} (h : pureS o us = some (x, us')) : o = some x ∧ us' = us := by
  obtain ⟨y, e, h⟩ := map_some h
  cases h
  exact ⟨e, rfl⟩
theorem bindS_some {α β : Type} {F : SM α} {k : α → SM β} {us : List U} {z : β × List U} (h : bindS F k us = some z) : ∃ x us1, F us = some (x, us1) ∧ k x us1 = some z := by
  obtain ⟨⟨x, us1⟩, e, h⟩ := bind_some h
  exact ⟨x, us1, e, h⟩
section
variable (M : Addr → Prop) (ps : List Addr) (σ : St) (B : Hp)
def EvS (te : TE) (F : SM U) : Prop :=
  ∀ us z us', F us = some (z, us') → ∀ B1 H1, At B B1 H1 → Ows M B1 H1 ps us → ∀ Q : VK, (∀ v B2 H2, Gs (inP ps) B1 H1 B2 H2 → Rp B2 z v → Ows M B2 H2 ps us' → Q v H2) → te σ H1 Q
def EvTS (tt : TT) (F : SM Bool) : Prop :=
  ∀ us z us', F us = some (z, us') → ∀ B1 H1, At B B1 H1 → Ows M B1 H1 ps us → ∀ Q : Bool → Hp → Prop, (∀ B2 H2, Gs (inP ps) B1 H1 B2 H2 → Ows M B2 H2 ps us' → Q z H2) → tt σ H1 Q
def EvAS (ta : TA) (F : SM (List U)) : Prop :=
  ∀ us z us', F us = some (z, us') → ∀ B1 H1, At B B1 H1 → Ows M B1 H1 ps us → ∀ Q : List V → Hp → Prop, (∀ v B2 H2, Gs (inP ps) B1 H1 B2 H2 → Rps B2 z v → Ows M B2 H2 ps us' → Q v H2) → ta σ H1 Q
def EvPS (tp : TO) (F : SM (Option Int)) : Prop :=
  ∀ us z us', F us = some (z, us') → ∀ B1 H1, At B B1 H1 → Ows M B1 H1 ps us → ∀ Q : Option Int → Hp → Prop, (∀ B2 H2, Gs (inP ps) B1 H1 B2 H2 → Ows M B2 H2 ps us' → Q z H2) → tp σ H1 Q
def EvIS (wi : TI) (F : SM (List U)) : Prop :=
  ∀ us xs us', F us = some (xs, us') → ∀ B1 H1, At B B1 H1 → Ows M B1 H1 ps us → ∀ R : It → Hp → Prop, (∀ J B2 H2, Gs (inP ps) B1 H1 B2 H2 → WalkU J xs B2 → Ows M B2 H2 ps us' → R J H2) → wi σ H1 R
/-- a new object of one's own -/
def EvN (te : TE) (F : SM U) : Prop :=
  ∀ us u us', F us = some (u, us') → ∀ B1 H1, At B B1 H1 → Ows M B1 H1 ps us → ∀ Q : VK, (∀ p B2 H2, Gs (inP ps) B1 H1 B2 H2 → H1 p = none → B2 p = none → OwnAt B2 H2 p u → Ows M B2 H2 ps us' → Q (.ref p) H2) → te σ H1 Q
end
section
variable {M : Addr → Prop} {ps : List Addr} {σ : St} {B H : Hp} {ta tb tc te : TE} {t u : TT} {tl tr : TA} {F G : SM U} {K : PySem.W.Frag}
theorem es_of {o : Option U} (h : EvO te σ B H o) : EvS M ps σ B te (pureS o) := fun us z us' e B1 H1 g w Q q => by
  obtain ⟨ee, rfl⟩ := pureS_some e; clear e; have e := ee; clear ee
  exact h z e B1 H1 g Q fun v B2 H2 g2 r => q v B2 H2 (.of g2) r (w.go g2)
theorem ets_of {o : Option Bool} (h : EvT t σ B H o) : EvTS M ps σ B t (pureS o) := fun us z us' e B1 H1 g w Q q => by
  obtain ⟨ee, rfl⟩ := pureS_some e; clear e; have e := ee; clear ee
  exact h z e B1 H1 g Q fun B2 H2 g2 => q B2 H2 (.of g2) (w.go g2)
theorem eas_of {o : Option (List U)} (h : EvA tl σ B H o) : EvAS M ps σ B tl (pureS o) := fun us z us' e B1 H1 g w Q q => by
  obtain ⟨ee, rfl⟩ := pureS_some e; clear e; have e := ee; clear ee
  exact h z e B1 H1 g Q fun v B2 H2 g2 r => q v B2 H2 (.of g2) r (w.go g2)
theorem eps_of {tp : TO} {o : Option (Option Int)} (h : EvP tp σ B H o) : EvPS M ps σ B tp (pureS o) := fun us z us' e B1 H1 g w Q q => by
  obtain ⟨ee, rfl⟩ := pureS_some e; clear e; have e := ee; clear ee
  exact h z e B1 H1 g Q fun B2 H2 g2 => q B2 H2 (.of g2) (w.go g2)
theorem eis_of {wi : TI} {o : Option (List U)} (h : EvI wi σ B H o) : EvIS M ps σ B wi (pureS o) := fun us z us' e B1 H1 g w Q q => by
  obtain ⟨ee, rfl⟩ := pureS_some e; clear e; have e := ee; clear ee
  exact h z e B1 H1 g Q fun J B2 H2 g2 r => q J B2 H2 (.of g2) r (w.go g2)
/-- nothing of one's own about: what it comes to, plainly -/
theorem eo_es (h : EvS (fun _ => True) [] σ B te F) : EvO te σ B H ((F []).map Prod.fst) := fun z e B1 H1 g Q q => by
  obtain ⟨⟨z', us'⟩, e1, e⟩ := map_some e
  subst e
  exact h [] z' us' e1 B1 H1 g ows_nil Q fun v B2 H2 g2 r _ => q v B2 H2 (Gs.go (g2.mono fun a ha => by simp [inP] at ha)) r
def opS (f : U → U → Option U) (F G : SM U) : SM U := bindS F fun x => bindS G fun y => pureS (f x y)
theorem es_op2 {r : R2} {f : U → U → Option U} (hr : RV r f) (ha : EvS M ps σ B ta F) (hb : EvS M ps σ B tb G) : EvS M ps σ B (tOp r ta tb) (opS f F G) := fun us z us' e B1 H1 g w Q q => by
  obtain ⟨x, us1, ex, e⟩ := bindS_some e
  obtain ⟨y, us2, ey, e⟩ := bindS_some e
  obtain ⟨ee, rfl⟩ := pureS_some e; clear e; have e := ee; clear ee
  exact ha _ _ _ ex B1 H1 g w _ fun v B2 H2 g2 r2 w2 => hb _ _ _ ey B2 H2 (g.trs g2) w2 _ fun v' B3 H3 g3 r3 w3 => hr x y z e v v' B3 H3 g3.bh (r2.upA g3.at) r3 Q fun v2 B4 H4 g4 r4 => q v2 B4 H4 ((g2.trans g3).trans (.of g4)) r4 (w3.go g4)
def op1S (f : U → Option U) (F : SM U) : SM U := bindS F fun x => pureS (f x)
theorem es_op1 {r : V → Hp → VK → Prop} {f : U → Option U} (hr : RU r f) (ha : EvS M ps σ B ta F) : EvS M ps σ B (tUn r ta) (op1S f F) := fun us z us' e B1 H1 g w Q q => by
  obtain ⟨x, us1, ex, e⟩ := bindS_some e
  obtain ⟨ee, rfl⟩ := pureS_some e; clear e; have e := ee; clear ee
  exact ha _ _ _ ex B1 H1 g w _ fun v B2 H2 g2 r2 w2 => hr x z e v B2 H2 g2.bh r2 Q fun v2 B4 H4 g4 r4 => q v2 B4 H4 (g2.trans (.of g4)) r4 (w2.go g4)
def callS (f : List U → Option U) (F : SM (List U)) : SM U := bindS F fun x => pureS (f x)
theorem es_cb {r : List V → Hp → VK → Prop} {f : List U → Option U} {F : SM (List U)} (hr : RC r f) (ha : EvAS M ps σ B tl F) : EvS M ps σ B (tCB r tl) (callS f F) := fun us z us' e B1 H1 g w Q q => by
  obtain ⟨x, us1, ex, e⟩ := bindS_some e
  obtain ⟨ee, rfl⟩ := pureS_some e; clear e; have e := ee; clear ee
  exact ha _ _ _ ex B1 H1 g w _ fun v B2 H2 g2 r2 w2 => hr x z e v B2 H2 g2.bh r2 Q fun v2 B4 H4 g4 r4 => q v2 B4 H4 (g2.trans (.of g4)) r4 (w2.go g4)
theorem es_call {m : List U → Option U} {E : XK} {F : SM (List U)} (ha : EvAS M ps σ B tl F) : EvS M ps σ B (tCall (spU m) [] E tl) (callS m F) := fun us z us' e B1 H1 g w Q q => by
  obtain ⟨x, us1, ex, e⟩ := bindS_some e
  obtain ⟨ee, rfl⟩ := pureS_some e; clear e; have e := ee; clear ee
  refine ha _ _ _ ex B1 H1 g w _ fun vs B2 H2 g2 r w2 => ?_
  show spU m (vs ++ []) H2 Q E
  rw [List.append_nil]
  exact ⟨B2, x, z, g2.bh, r, e, fun v B3 H3 g3 r3 => q v B3 H3 (g2.trans (.of g3)) r3 (w2.go g3)⟩
def consS (F : SM U) (G : SM (List U)) : SM (List U) := bindS F fun x => bindS G fun r => pureS (some (x :: r))
theorem eas_nil : EvAS M ps σ B tNil (pureS (some [])) := eas_of (H := B) ea_nil
theorem eas_cons {G : SM (List U)} (h : EvS M ps σ B ta F) (hr : EvAS M ps σ B tr G) : EvAS M ps σ B (tCons ta tr) (consS F G) := fun us z us' e B1 H1 g w Q q => by
  obtain ⟨x, us1, ex, e⟩ := bindS_some e
  obtain ⟨r, us2, er, e⟩ := bindS_some e
  obtain ⟨ee, rfl⟩ := pureS_some e; clear e; have e := ee; clear ee
  cases e
  exact h _ _ _ ex B1 H1 g w _ fun v B2 H2 g2 r2 w2 => hr _ _ _ er B2 H2 (g.trs g2) w2 _ fun vs B3 H3 g3 r3 w3 => q _ B3 H3 (g2.trans g3) (.cons (r2.upA g3.at) r3) w3
def tupS (F : SM (List U)) : SM U := bindS F fun xs => pureS (if xs.length ≤ lim then some (.tup xs) else none)
def lstS (F : SM (List U)) : SM U := bindS F fun xs => pureS (if xs.length ≤ lim then some (.lst xs) else none)
theorem es_tup {F : SM (List U)} (h : EvAS M ps σ B tl F) : EvS M ps σ B (tTup tl) (tupS F) := fun us z us' e B1 H1 g w Q q => by
  obtain ⟨x, us1, ex, e⟩ := bindS_some e
  obtain ⟨ee, rfl⟩ := pureS_some e; clear e; have e := ee; clear ee
  split at e
  · rename_i hl
    cases e
    exact h _ _ _ ex B1 H1 g w _ fun vs B2 H2 g2 r w2 => ⟨by rw [r.length]; exact lim_size hl, fun p hp => q _ _ _ (g2.trans (.of (Go.new g2.bh hp))) (.tup upd_same (r.new g2.bh hp)) (w2.go (Go.new g2.bh hp))⟩
  · cases e
theorem es_lst {F : SM (List U)} (h : EvAS M ps σ B tl F) : EvS M ps σ B (tLst tl) (lstS F) := fun us z us' e B1 H1 g w Q q => by
  obtain ⟨x, us1, ex, e⟩ := bindS_some e
  obtain ⟨ee, rfl⟩ := pureS_some e; clear e; have e := ee; clear ee
  split at e
  · rename_i hl
    cases e
    exact h _ _ _ ex B1 H1 g w _ fun vs B2 H2 g2 r w2 => ⟨by rw [r.length]; exact lim_size hl, fun p hp => q _ _ _ (g2.trans (.of (Go.new g2.bh hp))) (.lst upd_same (r.new g2.bh hp)) (w2.go (Go.new g2.bh hp))⟩
  · cases e
/-! tests -/
def testS (F : SM U) : SM Bool := bindS F fun x => pureS x.asB
theorem ets_test (h : EvS M ps σ B te F) : EvTS M ps σ B (tTest te) (testS F) := fun us z us' e B1 H1 g w _ q => by
  obtain ⟨x, us1, ex, e⟩ := bindS_some e
  obtain ⟨ee, rfl⟩ := pureS_some e; clear e; have e := ee; clear ee
  cases x <;> cases e
  exact h _ _ _ ex B1 H1 g w _ fun v B2 H2 g2 r w2 => by cases r; exact ⟨_, rfl, q B2 H2 g2 w2⟩
theorem ets_B (h : EvS M ps σ B te F) : EvTS M ps σ B (tB te) (testS F) := fun us z us' e B1 H1 g w _ q => by
  obtain ⟨x, us1, ex, e⟩ := bindS_some e
  obtain ⟨ee, rfl⟩ := pureS_some e; clear e; have e := ee; clear ee
  cases x <;> cases e
  exact h _ _ _ ex B1 H1 g w _ fun v B2 H2 g2 r w2 => by cases r; exact ⟨_, rfl, q B2 H2 g2 w2⟩
def andS (F G : SM Bool) : SM Bool := bindS F fun x => if x = true then G else pureS (some false)
def orS (F G : SM Bool) : SM Bool := bindS F fun x => if x = true then pureS (some true) else G
def notS (F : SM Bool) : SM Bool := bindS F fun x => pureS (some (!x))
theorem ets_and {F G : SM Bool} (h1 : EvTS M ps σ B t F) (h2 : EvTS M ps σ B u G) : EvTS M ps σ B (tAnd t u) (andS F G) := fun us z us' e B1 H1 g w Q q => by
  obtain ⟨x, us1, ex, e⟩ := bindS_some e
  refine h1 _ _ _ ex B1 H1 g w _ fun B2 H2 g2 w2 => ?_
  cases x with
  | true => exact h2 _ _ _ e B2 H2 (g.trs g2) w2 Q fun B3 H3 g3 w3 => q B3 H3 (g2.trans g3) w3
  | false =>
    obtain ⟨ee, rfl⟩ := pureS_some (show pureS (some false) us1 = _ from e); clear e; have e := ee; clear ee
    cases e
    exact q B2 H2 g2 w2
theorem ets_or {F G : SM Bool} (h1 : EvTS M ps σ B t F) (h2 : EvTS M ps σ B u G) : EvTS M ps σ B (tOr t u) (orS F G) := fun us z us' e B1 H1 g w Q q => by
  obtain ⟨x, us1, ex, e⟩ := bindS_some e
  refine h1 _ _ _ ex B1 H1 g w _ fun B2 H2 g2 w2 => ?_
  cases x with
  | false => exact h2 _ _ _ e B2 H2 (g.trs g2) w2 Q fun B3 H3 g3 w3 => q B3 H3 (g2.trans g3) w3
  | true =>
    obtain ⟨ee, rfl⟩ := pureS_some (show pureS (some true) us1 = _ from e); clear e; have e := ee; clear ee
    cases e
    exact q B2 H2 g2 w2
theorem ets_not {F : SM Bool} (h1 : EvTS M ps σ B t F) : EvTS M ps σ B (tNot t) (notS F) := fun us z us' e B1 H1 g w _ q => by
  obtain ⟨x, us1, ex, e⟩ := bindS_some e
  obtain ⟨ee, rfl⟩ := pureS_some e; clear e; have e := ee; clear ee
  cases e
  exact h1 _ _ _ ex B1 H1 g w _ fun B2 H2 g2 w2 => q B2 H2 g2 w2
def andVS (F G : SM U) : SM U := bindS (testS F) fun x => if x = true then G else pureS (some (.bl false))
def orVS (F G : SM U) : SM U := bindS (testS F) fun x => if x = true then pureS (some (.bl true)) else G
def notVS (F : SM U) : SM U := bindS (testS F) fun x => pureS (some (.bl (!x)))
theorem testS_some {us us1 : List U} {x : Bool} (h : testS F us = some (x, us1)) : F us = some (.bl x, us1) := by
  obtain ⟨y, us2, ey, h⟩ := bindS_some h
  obtain ⟨h, rfl⟩ := pureS_some h
  cases y <;> cases h
  exact ey
theorem es_and (h1 : EvS M ps σ B ta F) (h2 : EvS M ps σ B tb G) : EvS M ps σ B (tAndV ta tb) (andVS F G) := fun us z us' e B1 H1 g w Q q => by
  obtain ⟨x, us1, ex, e⟩ := bindS_some e
  refine h1 _ _ _ (testS_some ex) B1 H1 g w _ fun v B2 H2 g2 r w2 => ?_
  cases r
  refine ⟨x, rfl, ?_⟩
  cases x with
  | true => exact h2 _ _ _ e B2 H2 (g.trs g2) w2 Q fun v B3 H3 g3 r3 w3 => q v B3 H3 (g2.trans g3) r3 w3
  | false =>
    obtain ⟨ee, rfl⟩ := pureS_some (show pureS (some (U.bl false)) us1 = _ from e); clear e; have e := ee; clear ee
    cases e
    exact q _ B2 H2 g2 (.bl false) w2
theorem es_or (h1 : EvS M ps σ B ta F) (h2 : EvS M ps σ B tb G) : EvS M ps σ B (tOrV ta tb) (orVS F G) := fun us z us' e B1 H1 g w Q q => by
  obtain ⟨x, us1, ex, e⟩ := bindS_some e
  refine h1 _ _ _ (testS_some ex) B1 H1 g w _ fun v B2 H2 g2 r w2 => ?_
  cases r
  refine ⟨x, rfl, ?_⟩
  cases x with
  | false => exact h2 _ _ _ e B2 H2 (g.trs g2) w2 Q fun v B3 H3 g3 r3 w3 => q v B3 H3 (g2.trans g3) r3 w3
  | true =>
    obtain ⟨ee, rfl⟩ := pureS_some (show pureS (some (U.bl true)) us1 = _ from e); clear e; have e := ee; clear ee
    cases e
    exact q _ B2 H2 g2 (.bl true) w2
theorem es_not (h1 : EvS M ps σ B ta F) : EvS M ps σ B (tNotV ta) (notVS F) := fun us z us' e B1 H1 g w Q q => by
  obtain ⟨x, us1, ex, e⟩ := bindS_some e
  obtain ⟨ee, rfl⟩ := pureS_some e; clear e; have e := ee; clear ee
  cases e
  refine h1 _ _ _ (testS_some ex) B1 H1 g w _ fun v B2 H2 g2 r w2 => ?_
  cases r
  exact ⟨x, rfl, q _ B2 H2 g2 (.bl _) w2⟩
def ifS {α : Type} (c : SM Bool) (F G : SM α) : SM α := bindS c fun x => if x = true then F else G
theorem es_if {c : SM Bool} (h : EvTS M ps σ B t c) (h1 : EvS M ps σ B ta F) (h2 : EvS M ps σ B tb G) : EvS M ps σ B (tIf t ta tb) (ifS c F G) := fun us z us' e B1 H1 g w Q q => by
  obtain ⟨x, us1, ex, e⟩ := bindS_some e
  refine h _ _ _ ex B1 H1 g w _ fun B2 H2 g2 w2 => ?_
  cases x with
  | true => exact h1 _ _ _ e B2 H2 (g.trs g2) w2 Q fun v B3 H3 g3 r3 w3 => q v B3 H3 (g2.trans g3) r3 w3
  | false => exact h2 _ _ _ e B2 H2 (g.trs g2) w2 Q fun v B3 H3 g3 r3 w3 => q v B3 H3 (g2.trans g3) r3 w3
theorem en_if {c : SM Bool} (h : EvTS M ps σ B t c) (h1 : EvN M ps σ B ta F) (h2 : EvN M ps σ B tb G) : EvN M ps σ B (tIf t ta tb) (ifS c F G) := fun us z us' e B1 H1 g w Q q => by
  obtain ⟨x, us1, ex, e⟩ := bindS_some e
  refine h _ _ _ ex B1 H1 g w _ fun B2 H2 g2 w2 => ?_
  cases x with
  | true => exact h1 _ _ _ e B2 H2 (g.trs g2) w2 Q fun p B3 H3 g3 n3 b3 o3 w3 => q p B3 H3 (g2.trans g3) (g2.n p n3) b3 o3 w3
  | false => exact h2 _ _ _ e B2 H2 (g.trs g2) w2 Q fun p B3 H3 g3 n3 b3 o3 w3 => q p B3 H3 (g2.trans g3) (g2.n p n3) b3 o3 w3
/-! what is iterated over -/
def itemsS (F : SM U) : SM (List U) := bindS F fun x => pureS x.items
theorem eis_seq (h : EvS M ps σ B te F) : EvIS M ps σ B (iSeq K te) (itemsS F) := fun us xs us' e B1 H1 g w R q => by
  obtain ⟨x, us1, ex, e⟩ := bindS_some e
  obtain ⟨ee, rfl⟩ := pureS_some e; clear e; have e := ee; clear ee
  refine h _ _ _ ex B1 H1 g w _ fun v B2 H2 g2 r w2 => ?_
  have h2 : EvO (fun _ H Q => Q v H) σ B2 H2 (some x) := fun z ez B3 H3 g3 Q q => by cases ez; exact q v B3 H3 (Go.refl g3.bh) (r.upA g3)
  exact ei_seq h2 xs (by simpa using e) B2 H2 (At.refl g2.bh) R fun J B3 H3 g3 wk => q J B3 H3 (g2.trans (.of g3)) wk (w2.go g3)
def rngS (f : List U → Option (List U)) (F : SM (List U)) : SM (List U) := bindS F fun x => pureS (f x)
theorem eis_rng1 {F : SM (List U)} (h : EvAS M ps σ B tl F) : EvIS M ps σ B (iRng1 tl) (rngS rng1 F) := fun us xs us' e B1 H1 g w R q => by
  obtain ⟨x, us1, ex, e⟩ := bindS_some e
  obtain ⟨ee, rfl⟩ := pureS_some e; clear e; have e := ee; clear ee
  refine h _ _ _ ex B1 H1 g w _ fun v B2 H2 g2 r w2 => ?_
  have h2 : EvA (fun _ H Q => Q v H) σ B2 H2 (some x) := fun z ez B3 H3 g3 Q q => by cases ez; exact q v B3 H3 (Go.refl g3.bh) (r.kp (Kp.of g3.b))
  exact ei_rng1 h2 xs (by simpa using e) B2 H2 (At.refl g2.bh) R fun J B3 H3 g3 wk => q J B3 H3 (g2.trans (.of g3)) wk (w2.go g3)
theorem eis_rng2 {F : SM (List U)} (h : EvAS M ps σ B tl F) : EvIS M ps σ B (iRng2 tl) (rngS rng2 F) := fun us xs us' e B1 H1 g w R q => by
  obtain ⟨x, us1, ex, e⟩ := bindS_some e
  obtain ⟨ee, rfl⟩ := pureS_some e; clear e; have e := ee; clear ee
  refine h _ _ _ ex B1 H1 g w _ fun v B2 H2 g2 r w2 => ?_
  have h2 : EvA (fun _ H Q => Q v H) σ B2 H2 (some x) := fun z ez B3 H3 g3 Q q => by cases ez; exact q v B3 H3 (Go.refl g3.bh) (r.kp (Kp.of g3.b))
  exact ei_rng2 h2 xs (by simpa using e) B2 H2 (At.refl g2.bh) R fun J B3 H3 g3 wk => q J B3 H3 (g2.trans (.of g3)) wk (w2.go g3)
end
end Dn
set_option Elab.async false
set_option linter.all false
set_option maxRecDepth 100000
set_option maxHeartbeats 2000000
namespace Dn
open PySem L2
variable [CTab]
/-! ### data without locked things in it -/
mutual
def U.pl : U → Bool
  | .non => true
  | .bl _ => true
  | .int _ => true
  | .str _ => true
  | .tup xs => U.pls xs
  | .lst xs => U.pls xs
  | _ => false
def U.pls : List U → Bool
  | [] => true
  | x :: xs => U.pl x && U.pls xs
end
section
variable {B B' : Hp} {p : Addr} {od : Obj} {u0 : HO}
mutual
theorem Rp.erase (hp : B p = some (.frz od u0)) (s : ∀ a o, B a = some o → a ≠ p → B' a = some o) : ∀ {u : U} {v : V}, Rp B u v → u.pl = true → Rp B' u v
  | _, _, .non, _ => .non
  | _, _, .bl b, _ => .bl b
  | _, _, .int i, _ => .int i
  | _, _, .str x, _ => .str x
  | _, _, @Rp.tup _ _ a _ _ h r, e => .tup (s _ _ h (fun z => by rw [z, hp] at h; cases h)) (Rps.erase hp s r (by simpa [U.pl] using e))
  | _, _, @Rp.lst _ _ a _ _ h r, e => .lst (s _ _ h (fun z => by rw [z, hp] at h; cases h)) (Rps.erase hp s r (by simpa [U.pl] using e))
  | _, _, .frl _ _, e => absurd e (by simp [U.pl])
  | _, _, .dic _ _, e => absurd e (by simp [U.pl])
  | _, _, .dit _ _, e => absurd e (by simp [U.pl])
  | _, _, .tpd _ _ _, e => absurd e (by simp [U.pl])
  | _, _, .obj _ _ _, e => absurd e (by simp [U.pl])
theorem Rps.erase (hp : B p = some (.frz od u0)) (s : ∀ a o, B a = some o → a ≠ p → B' a = some o) : ∀ {u : List U} {v : List V}, Rps B u v → U.pls u = true → Rps B' u v
  | _, _, .nil, _ => .nil
  | _, _, .cons h r, e => by
    rw [U.pls, Bool.and_eq_true] at e
    exact .cons (Rp.erase hp s h e.1) (Rps.erase hp s r e.2)
end
end
def eraseB (B : Hp) (p : Addr) : Hp := fun a => if a = p then none else B a
theorem erase_same {B : Hp} {p : Addr} : eraseB B p p = none := by simp [eraseB]
theorem erase_ne {B : Hp} {p a : Addr} (h : a ≠ p) : eraseB B p a = B a := by simp [eraseB, h]
/-- what the heap has of one's own -/
theorem OwnAt.lock {B H : Hp} {p : Addr} {u : U} (h : OwnAt B H p u) : ∃ o, H p = some o ∧ Mut (some o) ∧ ∀ od, Rp (upd B p (.frz od o)) u (.ref p) ∨ B p ≠ none := by
  cases u with
  | frl xs =>
    obtain ⟨vs, e, r⟩ := h
    refine ⟨_, e, trivial, fun od => ?_⟩
    cases hb : B p with
    | none => exact .inl (.frl upd_same (r.kp (Kp.of fun b o h => by rw [upd_ne (ne_of_none h hb)]; exact h)))
    | some _ => exact .inr (by simp)
  | dic xs =>
    obtain ⟨vs, e, r⟩ := h
    refine ⟨_, e, trivial, fun od => ?_⟩
    cases hb : B p with
    | none => exact .inl (.dic upd_same (r.kp (Kp.of fun b o h => by rw [upd_ne (ne_of_none h hb)]; exact h)))
    | some _ => exact .inr (by simp)
  | dit xs =>
    obtain ⟨vs, e, r⟩ := h
    refine ⟨_, e, trivial, fun od => ?_⟩
    cases hb : B p with
    | none => exact .inl (.dit upd_same (r.kp (Kp.of fun b o h => by rw [upd_ne (ne_of_none h hb)]; exact h)))
    | some _ => exact .inr (by simp)
  | _ => exact h.elim
theorem same_lock {B : Hp} {p : Addr} {o : HO} (hb : B p = none) : Same B (upd B p o) := fun b u h => by rw [upd_ne (ne_of_none h hb)]; exact h
/-- a look at one's own object, which is locked the while -/
def lockO (j : Nat) (o : U → Option U) : SM U := fun us => us[j]?.bind fun u => if u.own = true then (o u).bind fun z => if z.pl = true then some (z, us) else none else none
def lockT (j : Nat) (o : U → Option Bool) : SM Bool := fun us => us[j]?.bind fun u => if u.own = true then (o u).map fun z => (z, us) else none
section
variable {M : Addr → Prop} {ps : List Addr} {σ : St} {B H : Hp} {ta tb tc te : TE} {t : TT} {tl tr : TA} {F G : SM U} {K : PySem.W.Frag} {j : Nat} {p : Addr}
theorem es_lockO {o : U → Option U} (hp : ps[j]? = some p) (h : ∀ u B' H', Same B B' → Rp B' u (.ref p) → EvO te σ B' H' (o u)) : EvS M ps σ B (tLockE te) (lockO j o) := fun us z us' e B1 H1 g w Q q => by
  obtain ⟨u, eu, e⟩ := bind_some e
  split at e
  · rename_i ho
    obtain ⟨z1, ez, e⟩ := bind_some e
    split at e
    · rename_i hz
      cases e
      obtain ⟨hb, ow⟩ := (w.at_ j p u hp eu).own ho
      obtain ⟨o1, e1, mu, hl⟩ := ow.lock
      refine ⟨p, o1, e1, mu, fun od => ?_⟩
      have r1 : Rp (upd B1 p (.frz od o1)) u (.ref p) := (hl od).resolve_right (fun z => z hb)
      have s1 : Same (upd B1 p (.frz od o1)) (upd H1 p (.frz od o1)) := fun b x hx => by
        by_cases hbp : b = p
        · subst hbp; rw [upd_same] at hx ⊢; exact hx
        · rw [upd_ne hbp] at hx ⊢; exact g.bh b x hx
      refine h u _ (upd H1 p (.frz od o1)) (g.b.trans (same_lock hb)) r1 z ez _ _ (At.refl s1) _ fun v B2 H2 g2 r2 => ?_
      have eB : B2 p = some (.frz od o1) := g2.b _ _ upd_same
      have eH : H2 p = some (.frz od o1) := g2.bh _ _ eB
      have gg : Go B1 H1 (eraseB B2 p) (upd H2 p o1) := by
        refine ⟨fun a x hx => ?_, fun a x hx => ?_, fun a x hx => ?_, fun a x hx => ?_⟩
        · by_cases ha : a = p
          · subst ha; rw [upd_same, ← e1]; exact hx
          · rw [upd_ne ha]; exact g2.h a x (by rw [upd_ne ha]; exact hx)
        · have ha : a ≠ p := ne_of_none hx hb
          rw [erase_ne ha]; exact g2.b a x (by rw [upd_ne ha]; exact hx)
        · by_cases ha : a = p
          · subst ha; rw [erase_same] at hx; cases hx
          · rw [erase_ne ha] at hx; rw [upd_ne ha]; exact g2.bh a x hx
        · by_cases ha : a = p
          · subst ha; rw [erase_same] at hx; cases hx
          · rw [erase_ne ha] at hx
            rcases g2.fr a x hx with z | z
            · rw [upd_ne ha] at z; exact .inl z
            · rw [upd_ne ha] at z; exact .inr z
      exact ⟨eH, q v _ _ (.of gg) (r2.erase eB (fun a x hx ha => by rw [erase_ne ha]; exact hx) hz) (w.go gg)⟩
    · cases e
  · cases e
/-- the var of one's own list: kept for good from here on -/
def takeS (j : Nat) : SM U := fun us => match us[j]? with
  | some (.frl xs) => some (.lst xs, us.set j .non)
  | _ => none
theorem es_take {i : Nat} (hp : ps[j]? = some p) (hv : σ[i]? = some (some (.ref p))) : EvS M ps σ B (tVar i) (takeS j) := fun us z us' e B1 H1 g w Q q => by
  unfold takeS at e
  split at e
  · rename_i xs eu
    cases e
    have wp := w.at_ j p _ hp eu
    obtain ⟨hb, vs, e1, r⟩ := wp.own rfl
    have s1 : Same B1 (upd B1 p (.lst vs)) := same_lock hb
    have sb : Same (upd B1 p (.lst vs)) H1 := fun b x hx => by
      by_cases hbp : b = p
      · subst hbp; rw [upd_same] at hx; rw [e1]; exact hx
      · rw [upd_ne hbp] at hx; exact g.bh b x hx
    refine ⟨_, hv, q _ (upd B1 p (.lst vs)) H1 ⟨fun a o e _ => e, fun a e => e, s1, sb, fun a o e => ?_⟩ (.lst upd_same (r.kp (Kp.of s1))) ?_⟩
    · by_cases ha : a = p
      · subst ha; exact .inr (.inr (List.mem_of_getElem? hp))
      · rw [upd_ne ha] at e; exact .inl e
    · exact w.set hp (fun q _ _ o e => e) s1 (fun q _ hq hn => by rw [upd_ne hq]; exact hn) ⟨wp.m, ⟨_, e1⟩, .inl rfl⟩
  · cases e
/-- x.append(e) -/
def appS (j : Nat) (y : U) : SM U := fun us => match us[j]? with
  | some (.frl xs) => if xs.length < lim then some (.non, us.set j (.frl (xs ++ [y]))) else none
  | _ => none
theorem own_upd {us : List U} {B2 H2 : Hp} {u : U} {o : HO} (hp : ps[j]? = some p) (w : Ows M B2 H2 ps us) (s : Same B2 H2) (wp : M p) (hb : B2 p = none) (hn : OwnAt B2 (upd H2 p o) p u) : Ows M B2 (upd H2 p o) ps (us.set j u) :=
  w.set hp (fun q _ hq o e => by rw [upd_ne hq]; exact e) (Same.refl _) (fun q _ _ hn => hn) ⟨wp, ⟨_, upd_same⟩, .inr ⟨hb, hn⟩⟩
theorem gs_upd {B2 H2 : Hp} {o : HO} (hp : ps[j]? = some p) (s : Same B2 H2) (hb : B2 p = none) : Gs (inP ps) B2 H2 B2 (upd H2 p o) :=
  ⟨fun a x e hm => by rw [upd_ne (fun z => hm (by rw [z]; exact List.mem_of_getElem? hp))]; exact e, fun a e => by
      by_cases ha : a = p
      · subst ha; rw [upd_same] at e; cases e
      · rw [upd_ne ha] at e; exact e, Same.refl _, same_upd s hb, fun a x e => .inl e⟩
theorem es_app {i : Nat} (hp : ps[j]? = some p) (hv : σ[i]? = some (some (.ref p))) (h : EvS M ps σ B te F) (hl : ∀ us y us', F us = some (y, us') → ∀ xs, us'[j]? = some (.frl xs) → ∃ ys, us[j]? = some (.frl ys)) :
    EvS M ps σ B (tBM K "list" rAppend (tVar i) (tCons te tNil)) (bindS F fun y => appS j y) := fun us z us' e B1 H1 g w Q q => by
  obtain ⟨y, us1, ey, e⟩ := bindS_some e
  unfold appS at e
  split at e
  · rename_i xs eu
    split at e
    · rename_i hlim
      cases e
      obtain ⟨ys, eys⟩ := hl _ _ _ ey xs eu
      obtain ⟨_, vs0, e0, _⟩ := (w.at_ j p _ hp eys).own rfl
      refine ⟨_, hv, .inl ⟨rfl, vs0, SqL.of e0⟩, h _ _ _ ey B1 H1 g w _ fun v B2 H2 g2 r2 w2 => ?_⟩
      have wp := w2.at_ j p _ hp eu
      obtain ⟨hb, vs, e1, r⟩ := wp.own rfl
      exact ⟨p, vs, v, rfl, rfl, e1, lim_lt (by rw [r.length]; exact Nat.le_of_lt hlim), q _ B2 _ (g2.trans (gs_upd hp g2.bh hb)) .non (own_upd hp w2 g2.bh wp.m hb ⟨_, upd_same, r.append (.one r2)⟩)⟩
    · cases e
  · cases e
/-- x.pop(e) -/
def popS (j : Nat) (y : U) : SM U := fun us => match us[j]?, y with
  | some (.frl xs), .int i => if -(2 ^ 63) ≤ i ∧ i < 2 ^ 63 then (seqIndex? i xs.length).bind fun k => xs[k]?.map fun z => (z, us.set j (.frl (xs.eraseIdx k))) else none
  | _, _ => none
theorem Rps.eraseIdx {B : Hp} : ∀ {xs : List U} {vs : List V} (k : Nat), Rps B xs vs → Rps B (xs.eraseIdx k) (vs.eraseIdx k)
  | _, _, _, .nil => .nil
  | _, _, 0, .cons _ t => t
  | _, _, k + 1, .cons h t => .cons h (Rps.eraseIdx k t)
theorem es_pop {i : Nat} (hp : ps[j]? = some p) (hv : σ[i]? = some (some (.ref p))) (h : EvS M ps σ B te F) (hl : ∀ us y us', F us = some (y, us') → ∀ xs, us'[j]? = some (.frl xs) → ∃ ys, us[j]? = some (.frl ys)) :
    EvS M ps σ B (tBM K "list" rPopAt (tVar i) (tCons te tNil)) (bindS F fun y => popS j y) := fun us z us' e B1 H1 g w Q q => by
  obtain ⟨y, us1, ey, e⟩ := bindS_some e
  unfold popS at e
  split at e
  · rename_i xs n eu
    split at e
    · rename_i hlim
      obtain ⟨k, ek, e⟩ := bind_some e
      obtain ⟨z1, ez, e⟩ := map_some e
      cases e
      obtain ⟨ys, eys⟩ := hl _ _ _ ey xs eu
      obtain ⟨_, vs0, e0, _⟩ := (w.at_ j p _ hp eys).own rfl
      refine ⟨_, hv, .inl ⟨rfl, vs0, SqL.of e0⟩, h _ _ _ ey B1 H1 g w _ fun v B2 H2 g2 r2 w2 => ?_⟩
      have wp := w2.at_ j p _ hp eu
      obtain ⟨hb, vs, e1, r⟩ := wp.own rfl
      cases r2
      obtain ⟨v1, ev1, rv1⟩ := r.get ez
      exact ⟨p, vs, n, k, v1, rfl, rfl, e1, hlim.1, hlim.2, by rw [r.length]; exact ek, ev1, q _ B2 _ (g2.trans (gs_upd hp g2.bh hb)) rv1 (own_upd hp w2 g2.bh wp.m hb ⟨_, upd_same, r.eraseIdx k⟩)⟩
    · cases e
  · cases e
/-- a state that keeps a list a list -/
def Lk (j : Nat) (F : SM U) : Prop := ∀ us y us', F us = some (y, us') → ∀ xs, us'[j]? = some (.frl xs) → ∃ ys, us[j]? = some (.frl ys)
theorem lk_of {o : Option U} : Lk j (pureS o) := fun us y us' e xs ex => by
  obtain ⟨_, rfl⟩ := pureS_some e
  exact ⟨xs, ex⟩
/-! ### new objects -/
theorem OwnAt.new {B H : Hp} {xs : List U} {vs : List V} (r : Rps B xs vs) {p : Addr} : OwnAt B (upd H p (.lst vs)) p (.frl xs) := ⟨vs, upd_same, r⟩
def nlstS (F : SM (List U)) : SM U := bindS F fun xs => pureS (if xs.length ≤ lim then some (.frl xs) else none)
theorem en_lst {F : SM (List U)} (h : EvAS M ps σ B tl F) : EvN M ps σ B (tLst tl) (nlstS F) := fun us z us' e B1 H1 g w Q q => by
  obtain ⟨x, us1, ex, e⟩ := bindS_some e
  obtain ⟨ee, rfl⟩ := pureS_some e; clear e; have e := ee; clear ee
  split at e
  · rename_i hl
    cases e
    exact h _ _ _ ex B1 H1 g w _ fun vs B2 H2 g2 r w2 => ⟨by rw [r.length]; exact lim_size hl, fun p hp => q p B2 _ (g2.trans (.of (Go.own g2.bh hp))) (g2.n p hp) (g2.bh.free hp) (OwnAt.new r) (w2.go (Go.own g2.bh hp))⟩
  · cases e
theorem en_dnewK : EvN M ps σ B tDNewK (pureS (some (.dic []))) := fun us z us' e B1 H1 g w Q q => by
  obtain ⟨ee, rfl⟩ := pureS_some e; clear e; have e := ee; clear ee
  cases e
  exact fun p hp => q p B1 _ (.of (Go.own g.bh hp)) hp (g.bh.free hp) ⟨[], upd_same, .nil⟩ (w.go (Go.own g.bh hp))
theorem en_dnewT : EvN M ps σ B tDNewT (pureS (some (.dit []))) := fun us z us' e B1 H1 g w Q q => by
  obtain ⟨ee, rfl⟩ := pureS_some e; clear e; have e := ee; clear ee
  cases e
  exact fun p hp => q p B1 _ (.of (Go.own g.bh hp)) hp (g.bh.free hp) ⟨[], upd_same, .nil⟩ (w.go (Go.own g.bh hp))
/-- a + b of lists, new -/
def catN (x y : U) : Option U := match x, y with
  | .lst xs, .lst ys => if xs.length + ys.length ≤ lim then some (.frl (xs ++ ys)) else none
  | _, _ => none
def ncatS (F G : SM U) : SM U := bindS F fun x => bindS G fun y => pureS (catN x y)
theorem en_cat (ha : EvS M ps σ B ta F) (hb : EvS M ps σ B tb G) : EvN M ps σ B (tOp (rAddU K) ta tb) (ncatS F G) := fun us z us' e B1 H1 g w Q q => by
  obtain ⟨x, us1, ex, e⟩ := bindS_some e
  obtain ⟨y, us2, ey, e⟩ := bindS_some e
  obtain ⟨ee, rfl⟩ := pureS_some e; clear e; have e := ee; clear ee
  refine ha _ _ _ ex B1 H1 g w _ fun v B2 H2 g2 r2 w2 => hb _ _ _ ey B2 H2 (g.trs g2) w2 _ fun v' B3 H3 g3 r3 w3 => ?_
  have r2 := r2.upA g3.at
  unfold catN at e
  split at e
  · rename_i xs ys
    split at e
    · rename_i hl
      cases e
      cases r2 with
      | @lst a _ vs h1 r1 =>
        cases r3 with
        | @lst b _ ws h2 r2 =>
          exact .inr (.inr (.inl ⟨a, b, vs, ws, rfl, rfl, g3.bh _ _ h1, g3.bh _ _ h2, by rw [r1.length, r2.length]; exact lim_size hl, fun p hp => q p B3 _ ((g2.trans g3).trans (.of (Go.own g3.bh hp))) ((g2.trans g3).n p hp) (g3.bh.free hp) (OwnAt.new (r1.append r2)) (w3.go (Go.own g3.bh hp))⟩))
    · cases e
  · cases e
/-- a def that gives a new object -/
def spN (m : List U → Option U) : Sp := fun vs H Q _ => ∃ B xs u, Same B H ∧ Rps B xs vs ∧ m xs = some u ∧ ∀ p B2 H2, Go B H B2 H2 → H p = none → B2 p = none → OwnAt B2 H2 p u → Q (.ref p) H2
theorem en_call {m : List U → Option U} {E : XK} {F : SM (List U)} (ha : EvAS M ps σ B tl F) : EvN M ps σ B (tCall (spN m) [] E tl) (callS m F) := fun us z us' e B1 H1 g w Q q => by
  obtain ⟨x, us1, ex, e⟩ := bindS_some e
  obtain ⟨ee, rfl⟩ := pureS_some e; clear e; have e := ee; clear ee
  refine ha _ _ _ ex B1 H1 g w _ fun vs B2 H2 g2 r w2 => ?_
  show spN m (vs ++ []) H2 Q E
  rw [List.append_nil]
  exact ⟨B2, x, z, g2.bh, r, e, fun p B3 H3 g3 n3 b3 o3 => q p B3 H3 (g2.trans (.of g3)) (g2.n p n3) b3 o3 (w2.go g3)⟩
/-! ### a def that changes its first argument -/
def spS (m : U → List U → Option (U × U)) : Sp := fun vs H Q _ => ∃ B p ws u xs r u', Same B H ∧ vs = .ref p :: ws ∧ B p = none ∧ OwnAt B H p u ∧ Rps B xs ws ∧ m u xs = some (r, u') ∧
  ∀ v B2 H2, Gs (fun a => a = p) B H B2 H2 → B2 p = none → OwnAt B2 H2 p u' → Rp B2 r v → Q v H2
def callM (j : Nat) (m : U → List U → Option (U × U)) (xs : List U) : SM U := fun us => us[j]?.bind fun u => if u.own = true then (m u xs).map fun r => (r.1, us.set j r.2) else none
theorem es_callM {i : Nat} {m : U → List U → Option (U × U)} {E : XK} {F : SM (List U)} (hp : ps[j]? = some p) (hv : σ[i]? = some (some (.ref p))) (ha : EvAS M ps σ B tl F) :
    EvS M ps σ B (tCall (spS m) [] E (tCons (tVar i) tl)) (bindS F fun xs => callM j m xs) := fun us z us' e B1 H1 g w Q q => by
  obtain ⟨x, us1, ex, e⟩ := bindS_some e
  obtain ⟨u, eu, e⟩ := bind_some e
  split at e
  · rename_i ho
    obtain ⟨⟨r, u'⟩, er, e⟩ := map_some e
    cases e
    refine ⟨_, hv, ha _ _ _ ex B1 H1 g w _ fun vs B2 H2 g2 rr w2 => ?_⟩
    have wp := w2.at_ j p u hp eu
    obtain ⟨hb, ow⟩ := wp.own ho
    show spS m ((.ref p :: vs) ++ []) H2 Q E
    rw [List.append_nil]
    refine ⟨B2, p, vs, u, x, r, u', g2.bh, rfl, hb, ow, rr, er, fun v B3 H3 g3 b3 o3 r3 => ?_⟩
    refine q v B3 H3 (g2.trans (g3.mono fun a ha => by subst ha; exact List.mem_of_getElem? hp)) r3 ?_
    refine w2.set hp (fun q hq hne o e => g3.h q o e hne) g3.b (fun q hq hne hn => ?_) ⟨wp.m, o3.ex, .inr ⟨b3, o3⟩⟩
    obtain ⟨o, eo⟩ := w2.exs hq
    exact g3.noB hn eo hne
  · cases e
/-- .. called with a new object, which is not kept -/
def callF (m : U → List U → Option (U × U)) (F : SM U) (G : SM (List U)) : SM U := bindS F fun u => bindS G fun xs => pureS ((m u xs).map Prod.fst)
theorem es_callF {m : U → List U → Option (U × U)} {E : XK} {o : Option (List U)} (hn : EvN M ps σ B te F) (ha : EvA tl σ B H o) : EvS M ps σ B (tCall (spS m) [] E (tCons te tl)) (callF m F (pureS o)) := fun us z us' e B1 H1 g w Q q => by
  obtain ⟨u, us1, eu, e⟩ := bindS_some e
  obtain ⟨xs, us2, ex, e⟩ := bindS_some e
  obtain ⟨ee, rfl⟩ := pureS_some e; clear e
  obtain ⟨ex', rfl⟩ := pureS_some ex
  obtain ⟨⟨r, u'⟩, er, e⟩ := map_some ee
  cases e
  refine hn _ _ _ eu B1 H1 g w _ fun p B2 H2 g2 n2 b2 o2 w2 => ha xs ex' B2 H2 (g.trs g2) _ fun vs B3 H3 g3 r3 => ?_
  obtain ⟨ob, eb⟩ := o2.ex
  show spS m ((.ref p :: vs) ++ []) H3 Q E
  rw [List.append_nil]
  have o3 : OwnAt B3 H3 p u := o2.up (fun o e => g3.h p o e) g3.b
  refine ⟨B3, p, vs, u, xs, r, u', g3.bh, rfl, g3.noB b2 eb, o3, r3, er, fun v B4 H4 g4 b4 o4 r4 => ?_⟩
  have w3 := w2.go g3
  have hnp : p ∉ ps := w.fresh n2
  have g14 : Gs (inP ps) B1 H1 B4 H4 := by
    have g13 := g2.trans (.of g3)
    refine ⟨fun a o e hm => g4.h a o (g13.h a o e hm) (fun z => by subst z; rw [n2] at e; cases e), fun a e => g13.n a (g4.n a e), g13.b.trans g4.b, g4.bh, fun a o e => ?_⟩
    rcases g4.fr a o e with e | e | e
    · exact g13.fr a o e
    · exact .inr (.inl (g13.n a e))
    · subst e; exact .inr (.inl n2)
  refine q v B4 H4 g14 r4 (w3.keep (fun a ha o e => g4.h a o e fun z => hnp (z ▸ ha)) g4.b fun a ha hb => ?_)
  obtain ⟨o, eo⟩ := w3.exs ha
  exact g4.noB hb eo fun z => hnp (z ▸ ha)
end
end Dn
set_option Elab.async false
set_option linter.all false
set_option maxRecDepth 100000
set_option maxHeartbeats 2000000
namespace Dn
open PySem L2
variable [CTab]
theorem mem_ne {ps : List Addr} {a p : Addr} (ha : a ∈ ps) (hn : p ∉ ps) : a ≠ p := fun z => hn (by rw [← z]; exact ha)
/-! ### a new list kept for good -/
def keepN (F : SM U) : SM U := bindS F fun u => match u with
  | .frl xs => pureS (some (.lst xs))
  | _ => pureS none
/-! ### comprehensions with a state -/
def lcSL (p : U → SM Bool) (f : U → SM U) : List U → SM (List U)
  | [] => pureS (some [])
  | x :: r => bindS (p x) fun b => if b = true then bindS (f x) fun y => bindS (lcSL p f r) fun z => pureS (some (y :: z)) else lcSL p f r
def lcS (p : U → SM Bool) (f : U → SM U) (F : SM (List U)) : SM U := bindS F fun xs => if xs.length ≤ lim then bindS (lcSL p f xs) fun zs => pureS (some (.frl zs)) else pureS none
def lcS2 (p : U → U → SM Bool) (f : U → U → SM U) (F : SM (List U)) : SM U :=
  lcS (fun u us => (unp2 u).bind fun ab => p ab.1 ab.2 us) (fun u us => (unp2 u).bind fun ab => f ab.1 ab.2 us) F
section
variable {M : Addr → Prop} {ps : List Addr} {σ : St} {B H : Hp} {ta tb tc te : TE} {t : TT} {tl tr : TA} {F G : SM U} {K : PySem.W.Frag} {j : Nat} {p : Addr}
theorem es_ofN (h : EvN M ps σ B te F) : EvS M ps σ B te (keepN F) := fun us z us' e B1 H1 g w Q q => by
  obtain ⟨u, us1, eu, e⟩ := bindS_some e
  split at e
  · rename_i xs
    obtain ⟨ee, rfl⟩ := pureS_some e; clear e; have e := ee; clear ee
    cases e
    refine h _ _ _ eu B1 H1 g w Q fun p B2 H2 g2 n2 b2 o2 w2 => ?_
    obtain ⟨vs, e1, r⟩ := o2
    have s1 : Same B2 (upd B2 p (.lst vs)) := same_lock b2
    have sb : Same (upd B2 p (.lst vs)) H2 := fun b x hx => by
      by_cases hbp : b = p
      · subst hbp; rw [upd_same] at hx; rw [e1]; exact hx
      · rw [upd_ne hbp] at hx; exact g2.bh b x hx
    have hnp : p ∉ ps := w.fresh n2
    refine q _ (upd B2 p (.lst vs)) H2 ⟨g2.h, g2.n, g2.b.trans s1, sb, fun a o e => ?_⟩ (.lst upd_same (r.kp (Kp.of s1))) (w2.keep (fun a _ o e => e) s1 fun a ha hb => by rw [upd_ne (mem_ne ha hnp)]; exact hb)
    by_cases ha : a = p
    · subst ha; exact .inr (.inl n2)
    · rw [upd_ne ha] at e; exact g2.fr a o e
  · obtain ⟨ee, rfl⟩ := pureS_some e
    cases ee
theorem en_lcG {wi : TI} {g : TG} {tt : TT} {te : TE} {vs : List Nat} {F : SM (List U)} {p : U → SM Bool} {f : U → SM U} (hi : EvIS M ps σ B wi F)
    (hg : ∀ u v B1 H1 us (Q : St → Hp → Prop) b us', At B B1 H1 → Rp B1 u v → p u us = some (b, us') → (∀ σ2 (c : SM Bool) (d : SM U), wipe σ2 vs = wipe σ vs → c us = some (b, us') → (b = true → d us' = f u us') → EvTS M ps σ2 B1 tt c → EvS M ps σ2 B1 te d → Q σ2 H1) → g v (wipe σ vs) H1 Q) :
    EvN M ps σ B (tLc wi g tt te vs) (lcS p f F) := fun us z us' e B0 H0 g0 w0 Q q => by
  obtain ⟨xs, us1, exs, e⟩ := bindS_some e
  split at e
  · rename_i hlim
    obtain ⟨zs, us2, ezs, e⟩ := bindS_some e
    obtain ⟨ee, rfl⟩ := pureS_some e; clear e; have e := ee; clear ee
    cases e
    refine hi _ _ _ exs B0 H0 g0 w0 _ fun J B2 H2 g2 w w2 => fun D hD => ?_
    have hnD : D ∉ ps := w2.fresh hD
    have w' : Walk J xs.length (fun H' => Same B2 H') (J.yld) := ⟨w.goes, w.stops, fun _ _ _ _ _ _ y => y⟩
    refine lc_it w' (fun i H' => ∃ Bi acc ys usi, Gs (inP ps) B2 H2 Bi H' ∧ Bi D = none ∧ H' D = some (.lst acc) ∧ Rps Bi ys acc ∧ Ows M Bi H' ps usi ∧ (lcSL p f (xs.drop i) usi).map (fun r => (ys ++ r.1, r.2)) = some (zs, us') ∧ ys.length ≤ i) ?_ ?_ ?_ ?_
    · exact ⟨B2, [], [], us1, .of (Go.own g2.bh hD), g2.bh.free hD, upd_same, .nil, w2.go (Go.own g2.bh hD), by simp [ezs], Nat.le_refl _⟩
    · rintro i H' _ ⟨Bi, _, _, _, gi, _⟩
      exact gi.b.trans gi.bh
    · rintro i x H' H'' hin ⟨Bi, acc, ys, usi, gi, hBD, hHD, ra, wi', hr, hy⟩ y
      obtain ⟨B', u, g', eu, ru⟩ := w.yields i H' x H'' Bi hin gi.b gi.bh y
      rw [drop_at eu] at hr
      obtain ⟨⟨rr, usr⟩, err, hr⟩ := map_some hr
      obtain ⟨b, usb, eb, err⟩ := bindS_some err
      have w'' := wi'.go g'
      have gg : At B B' H'' := (g0.trs g2).tr (gi.at.trans g')
      refine hg u x B' H'' usi _ b usb gg ru eb fun σ2 c d hw hc hd ht hte => ⟨hw, ?_⟩
      refine ht _ _ _ hc B' H'' (At.refl gg.bh) w'' _ fun B3 H3 g3 w3 => ?_
      have hB'D : B' D = none := g'.noB hBD hHD
      have hH''D : H'' D = some (.lst acc) := g'.h _ _ hHD
      have hB3 : B3 D = none := g3.noB hB'D hH''D hnD
      have hH3 : H3 D = some (.lst acc) := g3.h _ _ hH''D hnD
      have gi3 := (gi.trans (.of g')).trans g3
      cases b with
      | true =>
        rw [if_pos rfl] at err
        obtain ⟨yv, usy, ey, err⟩ := bindS_some err
        obtain ⟨r2, usz, er2, err⟩ := bindS_some err
        obtain ⟨ee, rfl⟩ := pureS_some err
        cases ee
        refine hte _ _ _ ((hd rfl).trans ey) B3 H3 g3.at w3 _ fun v4 B4 H4 g4 r4 w4 => ?_
        have hB4 : B4 D = none := g4.noB hB3 hH3 hnD
        have hH4 : H4 D = some (.lst acc) := g4.h _ _ hH3 hnD
        have gm : Gs (inP ps) B2 H2 B4 (upd H4 D (.lst (acc ++ [v4]))) := by
          have gi4 := gi3.trans g4
          refine ⟨fun a o e hm => ?_, fun a e => ?_, gi4.b, same_upd gi4.bh hB4, gi4.fr⟩
          · rw [upd_ne (ne_of_none e hD)]; exact gi4.h a o e hm
          · by_cases ha : a = D
            · subst ha; rw [upd_same] at e; cases e
            · rw [upd_ne ha] at e; exact gi4.n a e
        refine ⟨acc, hH4, lim_lt (by have := ra.length; omega), B4, acc ++ [v4], ys ++ [yv], usy, gm, hB4, upd_same, ((((ra.up g').kp (Kp.of g3.b)).kp (Kp.of g4.b)).append (.one r4)), ?_, ?_, ?_⟩
        · exact w4.keep (fun a ha o e => by rw [upd_ne (mem_ne ha hnD)]; exact e) (Same.refl _) fun a _ hb => hb
        · rw [er2]
          simp only [Option.map_some]
          rw [← hr]
          simp
        · rw [List.length_append, List.length_singleton]; omega
      | false =>
        refine ⟨B3, acc, ys, usb, gi3, hB3, hH3, (ra.up g').kp (Kp.of g3.b), w3, ?_, by omega⟩
        rw [if_neg (by decide)] at err
        rw [err]
        exact congrArg some hr
    · rintro H' ⟨Bi, acc, ys, usi, gi, hBD, hHD, ra, wi', hr, _⟩
      rw [List.drop_length] at hr
      obtain ⟨⟨r1, r2⟩, er, hr⟩ := map_some hr
      obtain ⟨ee, rfl⟩ := pureS_some er
      cases ee
      have e1 : ys = zs := by
        have := congrArg Prod.fst hr
        simpa using this
      have e2 : r2 = us' := congrArg Prod.snd hr
      subst e1 e2
      exact q D Bi H' (g2.trans gi) (g2.n D hD) hBD ⟨acc, hHD, ra⟩ wi'
  · obtain ⟨ee, rfl⟩ := pureS_some e
    cases ee
/-- one name -/
theorem en_lc {wi : TI} {tt : TT} {te : TE} {vs : List Nat} {jj : Nat} {F : SM (List U)} {p : U → SM Bool} {f : U → SM U} (hi : EvIS M ps σ B wi F) (hw : ∀ x, wipe ((wipe σ vs).set jj (some x)) vs = wipe σ vs)
    (hp : ∀ u v B1 H1, At B B1 H1 → Rp B1 u v → EvTS M ps ((wipe σ vs).set jj (some v)) B1 tt (p u)) (hf : ∀ u v B1 H1, At B B1 H1 → Rp B1 u v → EvS M ps ((wipe σ vs).set jj (some v)) B1 te (f u)) :
    EvN M ps σ B (tLc wi (gName jj) tt te vs) (lcS p f F) :=
  en_lcG hi fun u v B1 H1 us Q b us' g r eb k => k _ (p u) (f u) (hw v) eb (fun _ => rfl) (hp u v B1 H1 g r) (hf u v B1 H1 g r)
/-- two names -/
theorem en_lc2n {wi : TI} {tt : TT} {te : TE} {vs : List Nat} {j1 j2 : Nat} {F : SM (List U)} {p : U → U → SM Bool} {f : U → U → SM U} (hi : EvIS M ps σ B wi F) (hw : ∀ x y, wipe (((wipe σ vs).set j1 (some x)).set j2 (some y)) vs = wipe σ vs)
    (hp : ∀ a b v w B1 H1, At B B1 H1 → Rp B1 a v → Rp B1 b w → EvTS M ps (((wipe σ vs).set j1 (some v)).set j2 (some w)) B1 tt (p a b)) (hf : ∀ a b v w B1 H1, At B B1 H1 → Rp B1 a v → Rp B1 b w → EvS M ps (((wipe σ vs).set j1 (some v)).set j2 (some w)) B1 te (f a b)) :
    EvN M ps σ B (tLc wi (gTup K 2 (gCons (gName j1) (gCons (gName j2) gNil))) tt te vs) (lcS2 p f F) :=
  en_lcG hi fun u v B1 H1 us Q b us' g r eb k => by
    obtain ⟨⟨x, y⟩, eu, eb⟩ := bind_some eb
    refine g_two g.bh r eu fun a' b' ra rb => k _ (p x y) (f x y) (hw a' b') eb (fun _ => ?_) (hp x y a' b' B1 H1 g ra rb) (hf x y a' b' B1 H1 g ra rb)
    rw [eu]
    rfl
end
/-! ### statements -/
structure Bs where
  P : Addr → Prop
  hd : Option Addr
  B : Hp
  H : Hp
def Bs.M (β : Bs) : Addr → Prop := fun a => β.P a ∨ β.H a = none
structure Wh (β : Bs) (B H : Hp) (ps : List Addr) (us : List U) : Prop where
  g : Gs β.P β.B β.H B H
  w : Ows β.M B H ps us
  hd : ∀ p, β.hd = some p → ps.head? = some p
section
variable {β : Bs} {B H B1 H1 : Hp} {ps : List Addr} {us us' : List U}
theorem Wh.s (W : Wh β B H ps us) : Same B H := W.g.bh
theorem Wh.at (W : Wh β B H ps us) : At B B H := At.refl W.g.bh
theorem Wh.step (W : Wh β B H ps us) (g : Gs (inP ps) B H B1 H1) (w : Ows β.M B1 H1 ps us') : Wh β B1 H1 ps us' := ⟨W.g.base g fun a ha => W.w.ms ha, w, W.hd⟩
theorem Wh.go (W : Wh β B H ps us) (g : Go B H B1 H1) : Wh β B1 H1 ps us := W.step (.of g) (W.w.go g)
theorem Wh.new (W : Wh β B H ps us) {p : Addr} {u : U} (g : Gs (inP ps) B H B1 H1) (w : Ows β.M B1 H1 ps us') (hn : H p = none) (hb : B1 p = none) (o : OwnAt B1 H1 p u) : Wh β B1 H1 (ps ++ [p]) (us' ++ [u]) :=
  ⟨(W.step g w).g, w.add (W.w.fresh hn) ⟨.inr (W.g.n p hn), o.ex, .inr ⟨hb, o⟩⟩, fun q hq => by
    have := W.hd q hq
    cases ps with
    | nil => cases this
    | cons a r => simpa using this⟩
theorem Wh.swap (W : Wh β B H ps us) {p : Addr} {u : U} {j : Nat} (hj : j < ps.length) (h0 : 0 < j ∨ β.hd = none) (g : Gs (inP ps) B H B1 H1) (w : Ows β.M B1 H1 ps us') (hn : H p = none) (hb : B1 p = none) (o : OwnAt B1 H1 p u) : Wh β B1 H1 (ps.set j p) (us'.set j u) :=
  ⟨(W.step g w).g, w.swap hj (W.w.fresh hn) ⟨.inr (W.g.n p hn), o.ex, .inr ⟨hb, o⟩⟩, fun q hq => by
    have e := W.hd q hq
    rcases h0 with h0 | h0
    · cases ps with
      | nil => cases e
      | cons a r =>
        cases j with
        | zero => omega
        | succ j => simpa using e
    · rw [h0] at hq; cases hq⟩
theorem Wh.take (W : Wh β B H ps us) (n : Nat) (h0 : 0 < n ∨ β.hd = none) : Wh β B H (ps.take n) (us.take n) := ⟨W.g, W.w.take n, fun q hq => by
    have e := W.hd q hq
    rcases h0 with h0 | h0
    · cases ps with
      | nil => cases e
      | cons a r =>
        cases n with
        | zero => omega
        | succ n => simpa using e
    · rw [h0] at hq; cases hq⟩
end
def addS {α : Type} (u : U) (G : SM α) : SM α := fun us => G (us ++ [u])
def swapS {α : Type} (j : Nat) (u : U) (G : SM α) : SM α := fun us => G (us.set j u)
def cutS' {α : Type} (n : Nat) (G : SM α) : SM α := fun us => G (us.take n)
def unpS {α : Type} (u : U) (k : U → U → SM α) : SM α := fun us => (unp2 u).bind fun ab => k ab.1 ab.2 us
def parS {α : Type} (xs : List U) (k : U → U → SM α) : SM α := match xs with
  | [x, y] => k x y
  | _ => pureS none
def setLS (j : Nat) (i y : U) : SM U := fun us => match us[j]?, i with
  | some (.frl xs), .int k => (ixN xs.length k).map fun n => (.non, us.set j (.frl (xs.set n y)))
  | _, _ => none
def putU {κ : Type} [DecidableEq κ] (kvs : List (κ × U)) (k : κ) (v : U) : List (κ × U) :=
  if (kvs.any fun kv => decide (kv.1 = k)) = true then kvs.map (fun kv => if kv.1 = k then (kv.1, v) else kv) else kvs ++ [(k, v)]
def putS (j : Nat) (k y : U) : SM U := fun us => match us[j]? with
  | some (.dic kvs) => k.key.bind fun kk => if kvs.length < lim then some (.non, us.set j (.dic (putU kvs kk y))) else none
  | some (.dit kvs) => match k with
    | .tup ys => (keysL ys).bind fun kk => if kvs.length < lim then some (.non, us.set j (.dit (putU kvs kk y))) else none
    | _ => none
  | _ => none
theorem Rps.set {B : Hp} {x : U} {v : V} (h : Rp B x v) : ∀ {xs : List U} {vs : List V} (n : Nat), Rps B xs vs → Rps B (xs.set n x) (vs.set n v)
  | _, _, _, .nil => .nil
  | _, _, 0, .cons _ t => .cons h t
  | _, _, n + 1, .cons h1 t => .cons h1 (Rps.set h n t)
section
variable {B : Hp} {x : U} {v : V}
theorem Rpk.any (k : Key) : ∀ {kvs : List (Key × U)} {es : List (Key × V)}, Rpk B kvs es → (es.any fun kv => decide (kv.1 = k)) = (kvs.any fun kv => decide (kv.1 = k))
  | _, _, .nil => rfl
  | _, _, .cons _ t => by rw [List.any_cons, List.any_cons, Rpk.any k t]
theorem Rpk.repl (h : Rp B x v) (k : Key) : ∀ {kvs : List (Key × U)} {es : List (Key × V)}, Rpk B kvs es → Rpk B (kvs.map fun kv => if kv.1 = k then (kv.1, x) else kv) (es.map fun kv => if kv.1 = k then (kv.1, v) else kv)
  | _, _, .nil => .nil
  | _, _, @Rpk.cons _ _ k' y w kvs es r t => by
    rw [List.map_cons, List.map_cons]
    by_cases e : k' = k
    · simp only [e, if_true]; exact .cons h (Rpk.repl h k t)
    · simp only [e, if_false]; exact .cons r (Rpk.repl h k t)
theorem Rpk.snoc (h : Rp B x v) (k : Key) : ∀ {kvs : List (Key × U)} {es : List (Key × V)}, Rpk B kvs es → Rpk B (kvs ++ [(k, x)]) (es ++ [(k, v)])
  | _, _, .nil => .cons h .nil
  | _, _, .cons r t => .cons r (Rpk.snoc h k t)
theorem Rpk.put (h : Rp B x v) (k : Key) {kvs : List (Key × U)} {es : List (Key × V)} (r : Rpk B kvs es) : Rpk B (putU kvs k x) (putK es k v) := by
  unfold putU putK
  rw [r.any k]
  split
  · exact r.repl h k
  · exact r.snoc h k
theorem Rpt.any (k : List Key) : ∀ {kvs : List (List Key × U)} {es : List (List Key × V)}, Rpt B kvs es → (es.any fun kv => decide (kv.1 = k)) = (kvs.any fun kv => decide (kv.1 = k))
  | _, _, .nil => rfl
  | _, _, .cons _ t => by rw [List.any_cons, List.any_cons, Rpt.any k t]
theorem Rpt.repl (h : Rp B x v) (k : List Key) : ∀ {kvs : List (List Key × U)} {es : List (List Key × V)}, Rpt B kvs es → Rpt B (kvs.map fun kv => if kv.1 = k then (kv.1, x) else kv) (es.map fun kv => if kv.1 = k then (kv.1, v) else kv)
  | _, _, .nil => .nil
  | _, _, @Rpt.cons _ _ k' y w kvs es r t => by
    rw [List.map_cons, List.map_cons]
    by_cases e : k' = k
    · simp only [e, if_true]; exact .cons h (Rpt.repl h k t)
    · simp only [e, if_false]; exact .cons r (Rpt.repl h k t)
theorem Rpt.snoc (h : Rp B x v) (k : List Key) : ∀ {kvs : List (List Key × U)} {es : List (List Key × V)}, Rpt B kvs es → Rpt B (kvs ++ [(k, x)]) (es ++ [(k, v)])
  | _, _, .nil => .cons h .nil
  | _, _, .cons r t => .cons r (Rpt.snoc h k t)
theorem Rpt.put (h : Rp B x v) (k : List Key) {kvs : List (List Key × U)} {es : List (List Key × V)} (r : Rpt B kvs es) : Rpt B (putU kvs k x) (putK es k v) := by
  unfold putU putK
  rw [r.any k]
  split
  · exact r.repl h k
  · exact r.snoc h k
theorem Rpt.length {B : Hp} : ∀ {xs : List (List Key × U)} {vs : List (List Key × V)}, Rpt B xs vs → vs.length = xs.length
  | _, _, .nil => rfl
  | _, _, .cons _ t => by rw [List.length_cons, List.length_cons, Rpt.length t]
end
section
variable {α : Type} {R : α × List U} {Rr : U × List U} {β : Bs} {σ : St} {B H : Hp} {ps : List Addr} {us : List U} {K : PySem.W.Frag} {te tb ty tv : TE} {t : TT} {tu tw tz : TS} {D : Ends} {F G : SM U} {i j jj : Nat} {p : Addr}
theorem q_retS (W : Wh β B H ps us) (h : EvS β.M ps σ B te F) (e : F us = some Rr) (k : ∀ v B2 H2 ps2, Wh β B2 H2 ps2 Rr.2 → Rp B2 Rr.1 v → D.rt v H2) : tSeq (tRet te) tz D σ H :=
  h _ _ _ e B H W.at W.w _ fun v B2 H2 g2 r2 w2 => k v B2 H2 ps (W.step g2 w2) r2
theorem q_retN (W : Wh β B H ps us) (h : EvN β.M ps σ B te F) (e : F us = some Rr) (k : ∀ p B2 H2 ps2, Wh β B2 H2 ps2 Rr.2 → β.H p = none → B2 p = none → OwnAt B2 H2 p Rr.1 → D.rt (.ref p) H2) : tSeq (tRet te) tz D σ H :=
  h _ _ _ e B H W.at W.w _ fun p B2 H2 g2 n2 b2 o2 w2 => k p B2 H2 ps (W.step g2 w2) (W.g.n p n2) b2 o2
theorem q_asgS {f : U → SM α} (W : Wh β B H ps us) (h : EvS β.M ps σ B te F) (e : bindS F f us = some R) (k : ∀ x v B1 H1 us1, Wh β B1 H1 ps us1 → Same B B1 → Rp B1 x v → f x us1 = some R → tz D (σ.set i (some v)) H1) : tSeq (tAsg te (gName i)) tz D σ H := by
  obtain ⟨x, us1, ex, e⟩ := bindS_some e
  exact h _ _ _ ex B H W.at W.w _ fun v B2 H2 g2 r2 w2 => k x v B2 H2 us1 (W.step g2 w2) g2.b r2 e
theorem q_exprS {f : U → SM α} (W : Wh β B H ps us) (h : EvS β.M ps σ B te F) (e : bindS F f us = some R) (k : ∀ x B1 H1 us1, Wh β B1 H1 ps us1 → Same B B1 → f x us1 = some R → tz D σ H1) : tSeq (tDrop te) tz D σ H := by
  obtain ⟨x, us1, ex, e⟩ := bindS_some e
  exact h _ _ _ ex B H W.at W.w _ fun v B2 H2 g2 r2 w2 => k x B2 H2 us1 (W.step g2 w2) g2.b e
theorem q_twoS {f : U → U → SM α} (W : Wh β B H ps us) (h : EvS β.M ps σ B te F) (e : bindS F (fun u => unpS u f) us = some R) (k : ∀ x y v w B1 H1 us1, Wh β B1 H1 ps us1 → Same B B1 → Rp B1 x v → Rp B1 y w → f x y us1 = some R → tz D ((σ.set i (some v)).set j (some w)) H1) :
    tSeq (tAsg te (gTup K 2 (gCons (gName i) (gCons (gName j) gNil)))) tz D σ H := by
  obtain ⟨u, us1, eu, e⟩ := bindS_some e
  obtain ⟨⟨x, y⟩, exy, e⟩ := bind_some e
  exact h _ _ _ eu B H W.at W.w _ fun v B2 H2 g2 r2 w2 => g_two g2.bh r2 exy fun a b ra rb => k x y a b B2 H2 us1 (W.step g2 w2) g2.b ra rb e
theorem q_parS {ta : TA} {F : SM (List U)} {f : U → U → SM α} (W : Wh β B H ps us) (h : EvAS β.M ps σ B ta F) (e : bindS F (fun xs => parS xs f) us = some R) (k : ∀ x y v w B1 H1 us1, Wh β B1 H1 ps us1 → Same B B1 → Rp B1 x v → Rp B1 y w → f x y us1 = some R → tz D ((σ.set i (some v)).set j (some w)) H1) :
    tSeq (tPar i j ta) tz D σ H := by
  obtain ⟨xs, us1, eu, e⟩ := bindS_some e
  match xs, eu, e with
  | [x, y], eu, e =>
    refine h _ _ _ eu B H W.at W.w _ fun vs B2 H2 g2 r2 w2 => ?_
    cases r2 with
    | cons r1 t =>
      cases t with
      | cons r2 t =>
        cases t
        exact ⟨_, _, rfl, k x y _ _ B2 H2 us1 (W.step g2 w2) g2.b r1 r2 e⟩
  | [], _, e => cases e
  | [_], _, e => cases e
  | _ :: _ :: _ :: _, _, e => cases e
theorem q_ifS {c : SM Bool} {m1 m2 : SM α} (W : Wh β B H ps us) (h : EvTS β.M ps σ B t c) (e : ifS c m1 m2 us = some R) (h1 : ∀ B1 H1 us1, Wh β B1 H1 ps us1 → Same B B1 → m1 us1 = some R → tu { D with nx := tz D } σ H1) (h2 : ∀ B1 H1 us1, Wh β B1 H1 ps us1 → Same B B1 → m2 us1 = some R → tw { D with nx := tz D } σ H1) :
    tSeq (tIfS t tu tw) tz D σ H := by
  obtain ⟨x, us1, ex, e⟩ := bindS_some e
  refine h _ _ _ ex B H W.at W.w _ fun B2 H2 g2 w2 => ?_
  cases x with
  | true => exact h1 B2 H2 us1 (W.step g2 w2) g2.b e
  | false => exact h2 B2 H2 us1 (W.step g2 w2) g2.b e
theorem q_forS {wi : TI} {g : TG} {F : SM (List U)} {L : List U → SM α} (W : Wh β B H ps us) (hi : EvIS β.M ps σ B wi F) (e : bindS F L us = some R)
    (k : ∀ xs B2 H2 us1, Wh β B2 H2 ps us1 → Same B B2 → L xs us1 = some R → ∃ Rl : List U → St → Hp → Hp → Prop, Rl xs σ B2 H2 ∧ (∀ l σ' B' H', Rl l σ' B' H' → Same B2 B' ∧ Same B' H') ∧
      (∀ u l v σ' B' H' B'' H'', Rl (u :: l) σ' B' H' → Go B' H' B'' H'' → Rp B'' u v → g v σ' H'' fun σ2 H3 => tu { D with nx := fun σ3 H4 => ∃ B4, Rl l σ3 B4 H4, ct := fun σ3 H4 => ∃ B4, Rl l σ3 B4 H4, bk := tz D } σ2 H3) ∧
      (∀ σ' B' H', Rl [] σ' B' H' → tz D σ' H')) : tSeq (tFor wi g tu) tz D σ H := by
  obtain ⟨xs, us1, exs, e⟩ := bindS_some e
  refine hi _ _ _ exs B H W.at W.w _ fun J B2 H2 g2 w w2 => ?_
  obtain ⟨Rl, r0, rs, rt, rd⟩ := k xs B2 H2 us1 (W.step g2 w2) g2.b e
  have w' : Walk J xs.length (fun H' => Same B2 H') (J.yld) := ⟨w.goes, w.stops, fun _ _ _ _ _ _ y => y⟩
  refine for_it (D := { D with nx := tz D }) w' (fun i σ' H' => ∃ B', Rl (xs.drop i) σ' B' H') ⟨B2, r0⟩ (fun i σ' H' _ ⟨B', r⟩ => (rs _ _ _ _ r).1.trans (rs _ _ _ _ r).2) ?_ ?_
  · rintro i x σ' H' H'' hin ⟨B', r⟩ y
    obtain ⟨s1, s2⟩ := rs _ _ _ _ r
    obtain ⟨B'', u, g', eu, ru⟩ := w.yields i H' x H'' B' hin s1 s2 y
    rw [drop_at eu] at r
    exact rt u _ x σ' B' H' B'' H'' r g' ru
  · rintro σ' H' ⟨B', r⟩
    rw [List.drop_length] at r
    exact rd σ' B' H' r
theorem q_newS {f : SM α} (W : Wh β B H ps us) (h : EvN β.M ps σ B te F) (e : bindS F (fun u => addS u f) us = some R) (k : ∀ p B1 H1 us1, Wh β B1 H1 (ps ++ [p]) us1 → Same B B1 → f us1 = some R → tz D (σ.set i (some (.ref p))) H1) : tSeq (tAsg te (gName i)) tz D σ H := by
  obtain ⟨x, us1, ex, e⟩ := bindS_some e
  exact h _ _ _ ex B H W.at W.w _ fun p B2 H2 g2 n2 b2 o2 w2 => k p B2 H2 _ (W.new g2 w2 n2 b2 o2) g2.b e
theorem q_swapS {f : SM α} (W : Wh β B H ps us) (hj : jj < ps.length) (h0 : 0 < jj ∨ β.hd = none) (h : EvN β.M ps σ B te F) (e : bindS F (fun u => swapS jj u f) us = some R) (k : ∀ p B1 H1 us1, Wh β B1 H1 (ps.set jj p) us1 → Same B B1 → f us1 = some R → tz D (σ.set i (some (.ref p))) H1) : tSeq (tAsg te (gName i)) tz D σ H := by
  obtain ⟨x, us1, ex, e⟩ := bindS_some e
  exact h _ _ _ ex B H W.at W.w _ fun p B2 H2 g2 n2 b2 o2 w2 => k p B2 H2 _ (W.swap hj h0 g2 w2 n2 b2 o2) g2.b e
theorem setLS_do {k y : U} {v : V} {z : U} {us us' : List U} (hp : ps[jj]? = some p) (e : setLS jj k y us = some (z, us')) (w : Ows β.M B H ps us) (s : Same B H) (r : Rp B y v) {kv : V} (rk : Rp B k kv) {Q : Hp → Prop} (q : ∀ H2, Gs (inP ps) B H B H2 → Ows β.M B H2 ps us' → Q H2) : rSetL (.ref p) kv v H Q := by
  unfold setLS at e
  split at e
  · rename_i xs n eu
    obtain ⟨m, em, e⟩ := map_some e
    cases e
    cases rk
    have wp := w.at_ jj p _ hp eu
    obtain ⟨hb, vs, e1, rr⟩ := wp.own rfl
    exact ⟨p, vs, n, m, rfl, rfl, e1, by rw [rr.length]; exact em, q _ (gs_upd hp s hb) (own_upd hp w s wp.m hb ⟨_, upd_same, rr.set r m⟩)⟩
  · cases e
/-- x[i] = e, a list -/
theorem q_setL {ti : TE} {f : SM α} (W : Wh β B H ps us) (hp : ps[jj]? = some p) (hv : σ[i]? = some (some (.ref p))) (h : EvS β.M ps σ B te F) (h2 : EvS β.M ps σ B ti G) (e : bindS F (fun y => bindS G fun k => bindS (setLS jj k y) fun _ => f) us = some R) (k : ∀ B1 H1 us1, Wh β B1 H1 ps us1 → Same B B1 → f us1 = some R → tz D σ H1) :
    tSeq (tAsg te (gSub (tVar i) ti rSetL)) tz D σ H := by
  obtain ⟨y, us1, ey, e⟩ := bindS_some e
  obtain ⟨kk, us2, ek, e⟩ := bindS_some e
  obtain ⟨z, us3, ez, e⟩ := bindS_some e
  refine h _ _ _ ey B H W.at W.w _ fun v B2 H2 g2 r2 w2 => ⟨_, hv, h2 _ _ _ ek B2 H2 (W.at.trs g2) w2 _ fun kv B3 H3 g3 r3 w3 => ?_⟩
  exact setLS_do hp ez w3 g3.bh (r2.upA g3.at) r3 fun H4 g4 w4 => k B3 H4 us3 (W.step ((g2.trans g3).trans g4) w4) (g2.b.trans g3.b) e
/-- x[i], d = e -/
theorem q_setTwo {ti : TE} {f : U → SM α} (W : Wh β B H ps us) (hp : ps[jj]? = some p) (hv : σ[i]? = some (some (.ref p))) (h : EvS β.M ps σ B te F) (h2 : EvS β.M ps σ B ti G) (e : bindS F (fun u => unpS u fun x y => bindS G fun k => bindS (setLS jj k x) fun _ => f y) us = some R) (k : ∀ y v B1 H1 us1, Wh β B1 H1 ps us1 → Same B B1 → Rp B1 y v → f y us1 = some R → tz D (σ.set j (some v)) H1) :
    tSeq (tAsg te (gTup K 2 (gCons (gSub (tVar i) ti rSetL) (gCons (gName j) gNil)))) tz D σ H := by
  obtain ⟨u, us1, eu, e⟩ := bindS_some e
  obtain ⟨⟨x, y⟩, exy, e'⟩ := bind_some e
  obtain ⟨kk, us2, ek, e''⟩ := bindS_some e'
  obtain ⟨z, us3, ez, e3⟩ := bindS_some e''
  refine h _ _ _ eu B H W.at W.w _ fun v B2 H2 g2 r2 w2 => ?_
  have e0 := unp2_tup exy
  subst e0
  cases r2 with
  | @tup ad _ vs e0 r =>
    cases r with
    | cons r1 t =>
      cases t with
      | cons r2 t =>
        cases t
        refine ⟨ad, _, rfl, SqT.of (g2.bh _ _ e0), rfl, _, _, rfl, _, hv, h2 _ _ _ ek B2 H2 (W.at.trs g2) w2 _ fun kv B3 H3 g3 r3 w3 => ?_⟩
        exact setLS_do hp ez w3 g3.bh (r1.upA g3.at) r3 fun H4 g4 w4 => ⟨_, _, rfl, rfl, k y _ B3 H4 us3 (W.step ((g2.trans g3).trans g4) w4) (g2.b.trans g3.b) (r2.upA g3.at) e3⟩
/-- d[k] = e, a dict -/
theorem q_dput {f : SM α} (W : Wh β B H ps us) (hp : ps[jj]? = some p) (hv : σ[i]? = some (some (.ref p))) (h : EvS β.M ps σ B tv F) (h2 : EvS β.M ps σ B ty G) (e : bindS F (fun y => bindS G fun k => bindS (putS jj k y) fun _ => f) us = some R) (k : ∀ B1 H1 us1, Wh β B1 H1 ps us1 → Same B B1 → f us1 = some R → tz D σ H1) :
    tSeq (sDPut (tVar i) ty tv) tz D σ H := by
  obtain ⟨y, us1, ey, e⟩ := bindS_some e
  obtain ⟨kk, us2, ek, e⟩ := bindS_some e
  obtain ⟨z, us3, ez, e⟩ := bindS_some e
  refine h _ _ _ ey B H W.at W.w _ fun v B2 H2 g2 r2 w2 => ⟨_, hv, h2 _ _ _ ek B2 H2 (W.at.trs g2) w2 _ fun kv B3 H3 g3 r3 w3 => ?_⟩
  have r2 := r2.upA g3.at
  unfold putS at ez
  split at ez
  · rename_i kvs eu
    obtain ⟨kq, ekq, ez⟩ := bind_some ez
    split at ez
    · rename_i hl
      cases ez
      have wp := w3.at_ jj p _ hp eu
      obtain ⟨hb, es, e1, rr⟩ := wp.own rfl
      exact ⟨p, _, rfl, .inl ⟨es, kq, e1, r3.key ekq, lim_lt (by rw [rr.length]; exact Nat.le_of_lt hl), rfl⟩, k B3 _ _ (W.step ((g2.trans g3).trans (gs_upd hp g3.bh hb)) (own_upd (u := U.dic (putU kvs kq y)) hp w3 g3.bh wp.m hb ⟨_, upd_same, rr.put r2 kq⟩)) (g2.b.trans g3.b) e⟩
    · cases ez
  · rename_i kvs eu
    split at ez
    · rename_i ys
      obtain ⟨kq, ekq, ez⟩ := bind_some ez
      split at ez
      · rename_i hl
        cases ez
        have wp := w3.at_ jj p _ hp eu
        obtain ⟨hb, es, e1, rr⟩ := wp.own rfl
        cases r3 with
        | @tup bb _ ws eb rb =>
          have hk := rb.keys ekq
          exact ⟨p, _, rfl, .inr ⟨es, kq, bb, e1, rfl, by rw [← hk]; exact g3.bh _ _ eb, lim_lt (by rw [rr.length]; exact Nat.le_of_lt hl), rfl⟩, k B3 _ _ (W.step ((g2.trans g3).trans (gs_upd hp g3.bh hb)) (own_upd (u := U.dit (putU kvs kq y)) hp w3 g3.bh wp.m hb ⟨_, upd_same, rr.put r2 kq⟩)) (g2.b.trans g3.b) e⟩
      · cases ez
    · cases ez
  · cases ez
end
/-! ### a def's arguments -/
def finS (o : Option (U × List U)) : Option (U × U) := o.bind fun R => match R.2 with
  | u :: _ => if u.own = true then some (R.1, u) else none
  | [] => none
def runS (F : SM U) : Option U := (F []).map Prod.fst
def b0 (f : SM U) : U → List U → Option (U × U)
  | u, [] => finS (f [u])
  | _, _ => none
def b1 (f : U → SM U) : U → List U → Option (U × U)
  | u, [x] => finS (f x [u])
  | _, _ => none
def b2 (f : U → U → SM U) : U → List U → Option (U × U)
  | u, [x, y] => finS (f x y [u])
  | _, _ => none
def b3 (f : U → U → U → SM U) : U → List U → Option (U × U)
  | u, [x, y, z] => finS (f x y z [u])
  | _, _ => none
def b4 (f : U → U → U → U → SM U) : U → List U → Option (U × U)
  | u, [x, y, z, t] => finS (f x y z t [u])
  | _, _ => none
section
variable {vs : List V} {H : Hp} {Q : VK} {E : XK}
/-- the base of a def that changes the object at p -/
abbrev bsM (B H : Hp) (p : Addr) : Bs := ⟨fun a => a = p, some p, B, H⟩
abbrev bsU (B H : Hp) : Bs := ⟨fun _ => False, none, B, H⟩
theorem wh_pure {B : Hp} (s : Same B H) : Wh (bsU B H) B H [] [] := ⟨.refl s, ows_nil, fun p h => nomatch h⟩
theorem Wh.pure {B B2 H2 : Hp} {ps : List Addr} {us : List U} (W : Wh (bsU B H) B2 H2 ps us) : Go B H B2 H2 := W.g.go
theorem wh_first {B : Hp} {p : Addr} {u : U} (s : Same B H) (hb : B p = none) (o : OwnAt B H p u) : Wh (bsM B H p) B H [p] [u] :=
  ⟨.refl s, ⟨rfl, fun i j q h1 h2 => by
      have a1 := (List.getElem?_eq_some_iff.mp h1).1
      have a2 := (List.getElem?_eq_some_iff.mp h2).1
      simp at a1 a2; omega, fun j q v hq hv => by
      have a1 := (List.getElem?_eq_some_iff.mp hq).1
      have : j = 0 := by simp at a1; omega
      subst this
      cases hq; cases hv
      exact ⟨.inl rfl, o.ex, .inr ⟨hb, o⟩⟩⟩, fun q h => h⟩
theorem fin_of {B : Hp} {p : Addr} {o : Option (U × List U)} {r u' : U} (e : finS o = some (r, u')) (k : ∀ v B2 H2, Gs (fun a => a = p) B H B2 H2 → B2 p = none → OwnAt B2 H2 p u' → Rp B2 r v → Q v H2) :
    ∃ R, o = some R ∧ ∀ v B2 H2 ps2, Wh (bsM B H p) B2 H2 ps2 R.2 → Rp B2 R.1 v → Q v H2 := by
  obtain ⟨R, eR, e⟩ := bind_some e
  refine ⟨R, eR, fun v B2 H2 ps2 W r2 => ?_⟩
  split at e
  · rename_i u0 rest hR
    split at e
    · rename_i ho
      cases e
      have hd := W.hd p rfl
      cases ps2 with
      | nil => cases hd
      | cons q ps2 =>
        cases hd
        have wp := W.w.at_ 0 p u' rfl (by rw [hR]; rfl)
        obtain ⟨hb, ow⟩ := wp.own ho
        exact k v B2 H2 W.g hb ow r2
    · cases e
  · cases e
theorem ss0 {f : SM U} (h : spS (b0 f) vs H Q E) : ∃ B p u R, vs = [.ref p] ∧ Same B H ∧ Wh (bsM B H p) B H [p] [u] ∧ f [u] = some R ∧ ∀ v B2 H2 ps2, Wh (bsM B H p) B2 H2 ps2 R.2 → Rp B2 R.1 v → Q v H2 := by
  obtain ⟨B, p, ws, u, xs, r, u', s, ev, hb, o, rs, e, k⟩ := h
  match xs, rs, e with
  | [], .nil, e =>
    obtain ⟨R, eR, k⟩ := fin_of e k
    exact ⟨B, p, u, R, ev, s, wh_first s hb o, eR, k⟩
theorem ss1 {f : U → SM U} (h : spS (b1 f) vs H Q E) : ∃ B p u x v R, vs = [.ref p, v] ∧ Same B H ∧ Wh (bsM B H p) B H [p] [u] ∧ Rp B x v ∧ f x [u] = some R ∧ ∀ v B2 H2 ps2, Wh (bsM B H p) B2 H2 ps2 R.2 → Rp B2 R.1 v → Q v H2 := by
  obtain ⟨B, p, ws, u, xs, r, u', s, ev, hb, o, rs, e, k⟩ := h
  match xs, rs, e with
  | [x], .cons r1 .nil, e =>
    obtain ⟨R, eR, k⟩ := fin_of e k
    exact ⟨B, p, u, x, _, R, ev, s, wh_first s hb o, r1, eR, k⟩
theorem ss2 {f : U → U → SM U} (h : spS (b2 f) vs H Q E) : ∃ B p u x y v w R, vs = [.ref p, v, w] ∧ Same B H ∧ Wh (bsM B H p) B H [p] [u] ∧ Rp B x v ∧ Rp B y w ∧ f x y [u] = some R ∧ ∀ v B2 H2 ps2, Wh (bsM B H p) B2 H2 ps2 R.2 → Rp B2 R.1 v → Q v H2 := by
  obtain ⟨B, p, ws, u, xs, r, u', s, ev, hb, o, rs, e, k⟩ := h
  match xs, rs, e with
  | [x, y], .cons r1 (.cons r2 .nil), e =>
    obtain ⟨R, eR, k⟩ := fin_of e k
    exact ⟨B, p, u, x, y, _, _, R, ev, s, wh_first s hb o, r1, r2, eR, k⟩
theorem ss3 {f : U → U → U → SM U} (h : spS (b3 f) vs H Q E) : ∃ B p u x y z v w t R, vs = [.ref p, v, w, t] ∧ Same B H ∧ Wh (bsM B H p) B H [p] [u] ∧ Rp B x v ∧ Rp B y w ∧ Rp B z t ∧ f x y z [u] = some R ∧ ∀ v B2 H2 ps2, Wh (bsM B H p) B2 H2 ps2 R.2 → Rp B2 R.1 v → Q v H2 := by
  obtain ⟨B, p, ws, u, xs, r, u', s, ev, hb, o, rs, e, k⟩ := h
  match xs, rs, e with
  | [x, y, z], .cons r1 (.cons r2 (.cons r3 .nil)), e =>
    obtain ⟨R, eR, k⟩ := fin_of e k
    exact ⟨B, p, u, x, y, z, _, _, _, R, ev, s, wh_first s hb o, r1, r2, r3, eR, k⟩
/-- a plain def with objects of its own: from what it comes to -/
theorem runS_some {f : SM U} {r : U} (h : runS f = some r) : ∃ R, f [] = some R ∧ R.1 = r := map_some h
end
end Dn
set_option Elab.async false
set_option linter.all false
set_option maxRecDepth 100000
set_option maxHeartbeats 2000000
namespace Dn
open PySem L2
variable [CTab]
/-! ### iterating: lists, tuples, the keys of a dict -/
def U.iter : U → Option (List U)
  | .lst xs => some xs
  | .tup xs => some xs
  | .tpd xs => some xs
  | .frl xs => some xs
  | .dic kvs => some (kvs.map fun kv => kU kv.1)
  | _ => none
def iAny (K : PySem.W.Frag) (tl : TE) : TI := fun σ H R => tl σ H fun x H1 => (∃ a, x = .ref a ∧ (∃ xs, SqL K H1 a xs) ∧ R (Itl K a) H1) ∨ (∃ a, x = .ref a ∧ (∃ xs, SqT K H1 a xs) ∧ R (Itt K a) H1) ∨
  (∃ d o kvs, x = .ref d ∧ H1 d = some (.frz o (.dK kvs)) ∧ R (Itk d o kvs) H1)
theorem pi_any {X : Cx} {tg l : Expr} {tl : TE} (hl : PE X l tl) : PI X tg l (iAny X.K tl) := by
  refine ⟨fun pins s σ H R I h => ?_⟩
  refine thn (hl.run pins s σ H _ I h) fun v s1 ⟨x, H1, I1, r1, q1⟩ => ?_
  rcases q1 with ⟨a, e, ⟨xs, hq⟩, q⟩ | ⟨a, e, ⟨xs, hq⟩, q⟩ | ⟨d, o, kvs, e, hd, q⟩
  · subst e
    cases r1
    obtain ⟨its, rv, p, hz⟩ := I1.list hq
    refine wpAny_pyIter_list p.isList ?_
    refine ⟨s1.heap.objs.size, [s1.heap.objs.size], _, _, H1, rfl, I1.kept (t' := s1.toks) fun b o e => Heap.get?_push_of_some _ e, turn_list a _, ⟨_, Heap.get?_push_size _ rfl, rfl, rfl⟩, fun b hb => ?_, q⟩
    have e : b = s1.heap.objs.size := by simpa using hb
    subst e
    exact I1.fpOk (Nat.le_refl _) (I1.hok.fresh (Nat.le_refl _))
  · subst e
    cases r1
    obtain ⟨its, rv, p, hz⟩ := I1.tuple hq
    refine wpAny_pyIter_tuple (show s1.heap.IsTuple a its.toArray from p) ?_
    refine ⟨s1.heap.objs.size, [s1.heap.objs.size], _, _, H1, rfl, I1.kept (t' := s1.toks) fun b o e => Heap.get?_push_of_some _ e, turn_tuple a _, ⟨_, Heap.get?_push_size _ rfl, rfl, rfl⟩, fun b hb => ?_, q⟩
    have e : b = s1.heap.objs.size := by simpa using hb
    subst e
    exact I1.fpOk (Nat.le_refl _) (I1.hok.fresh (Nat.le_refl _))
  · subst e
    cases r1
    obtain ⟨hs, hgd, hx, es, ep, vs, hdt, hsz, kv, hm⟩ := I1.frzK hd
    refine L2.iter_keys hs hgd hx hdt (pi_one (tk := s1.toks) I1 _ (turn_keys _ hdt) ⟨_, Heap.get?_push_size _ rfl, rfl, ?_⟩ q)
    rw [hsz] <;> rfl
theorem Rpk.at {B : Hp} : ∀ {xs : List (Key × U)} {vs : List (Key × V)} {i : Nat} {k : Key} {v : V}, Rpk B xs vs → vs[i]? = some (k, v) → ∃ x, xs[i]? = some (k, x) ∧ Rp B x v
  | _, _, _, _, _, .nil, e => by simp at e
  | _, _, 0, _, _, .cons h _, e => by simp at e; obtain ⟨rfl, rfl⟩ := e; exact ⟨_, rfl, h⟩
  | _, _, i + 1, k, v, .cons _ t, e => by
    obtain ⟨x, h1, h2⟩ := Rpk.at (i := i) (k := k) (v := v) t (by simpa using e)
    exact ⟨x, by simpa using h1, h2⟩
section
variable {σ : St} {B H : Hp} {te tl ta tb : TE} {oa ob : Option U} {K : PySem.W.Frag}
theorem ei_any (h : EvO tl σ B H oa) : EvI (iAny K tl) σ B H (oa.bind U.iter) := fun xs e B1 H1 g R q => by
  obtain ⟨x, ex, e⟩ := bind_some e
  refine h x ex B1 H1 g _ fun v B2 H2 g2 r => ?_
  cases r with
  | @lst a ys vs h r =>
    cases e
    exact .inl ⟨a, rfl, ⟨vs, SqL.of (g2.bh _ _ h)⟩, q _ B2 H2 g2 (WalkU.of (walk_list (K := K) (a := a)) r.length (fun H s => SqL.of (s _ _ h)) r)⟩
  | @tup a ys vs h r =>
    cases e
    exact .inr (.inl ⟨a, rfl, ⟨vs, SqT.of (g2.bh _ _ h)⟩, q _ B2 H2 g2 (WalkU.of (walk_tup (K := K) (a := a)) r.length (fun H s => SqT.of (s _ _ h)) r)⟩)
  | @tpd a ys vs o h _ r =>
    cases e
    exact .inr (.inl ⟨a, rfl, ⟨_, .inl (.inr ⟨o, g2.bh _ _ h⟩)⟩, q _ B2 H2 g2 (WalkU.of (walk_tup (K := K) (a := a)) r.length (fun H s => .inl (.inr ⟨o, s _ _ h⟩)) r)⟩)
  | @frl a ys vs o h r =>
    cases e
    exact .inl ⟨a, rfl, ⟨_, .inl (.inr ⟨o, g2.bh _ _ h⟩)⟩, q _ B2 H2 g2 (WalkU.of (walk_list (K := K) (a := a)) r.length (fun H s => .inl (.inr ⟨o, s _ _ h⟩)) r)⟩
  | @dic a kvs es o h r =>
    cases e
    refine .inr (.inr ⟨a, o, es, rfl, g2.bh _ _ h, q _ B2 H2 g2 ⟨fun i H' hi s => ?_, fun H' s => ?_, fun i H' x H'' B' hi s1 s2 y => ?_⟩⟩)
    · rw [List.length_map, ← r.length] at hi
      exact (walk_keys (kvs := es)).goes i H' hi (s _ _ h)
    · rw [List.length_map, ← r.length]
      exact (walk_keys (kvs := es)).stops H' (s _ _ h)
    · rw [List.length_map, ← r.length] at hi
      obtain ⟨e1, k, v, e2, e3⟩ := (walk_keys (kvs := es)).yields i H' x H'' hi ((s1.trans s2) _ _ h) y
      subst e1 e3
      obtain ⟨x, ex, _⟩ := r.at e2
      exact ⟨B', kU k, Go.refl s2, by simp [ex], rp_key k⟩
  | _ => cases e
end
section
variable {M : Addr → Prop} {ps : List Addr} {σ : St} {B H : Hp} {te : TE} {F : SM U} {K : PySem.W.Frag}
def iterS (F : SM U) : SM (List U) := bindS F fun x => pureS x.iter
theorem eis_any (h : EvS M ps σ B te F) : EvIS M ps σ B (iAny K te) (iterS F) := fun us xs us' e B1 H1 g w R q => by
  obtain ⟨x, us1, ex, e⟩ := bindS_some e
  obtain ⟨ee, rfl⟩ := pureS_some e; clear e; have e := ee; clear ee
  refine h _ _ _ ex B1 H1 g w _ fun v B2 H2 g2 r w2 => ?_
  have h2 : EvO (fun _ H Q => Q v H) σ B2 H2 (some x) := fun z ez B3 H3 g3 Q q => by cases ez; exact q v B3 H3 (Go.refl g3.bh) (r.upA g3)
  exact ei_any h2 xs (by simpa using e) B2 H2 (At.refl g2.bh) R fun J B3 H3 g3 wk => q J B3 H3 (g2.trans (.of g3)) wk (w2.go g3)
end
/-! ### list(..) of a list, a tuple, a dict -/
theorem call_listB {X : Cx} (hc : X.calm = true) : CallR X (.type "list") (fun xs H Q => (∃ p ys, xs = [.ref p] ∧ (SqL X.K H p ys ∨ SqT X.K H p ys) ∧ ∀ l, H l = none → Q (.ref l) (upd H l (.lst ys))) ∨
    ∃ (a : Addr) (kvs : List (Key × V)), xs = [.ref a] ∧ Rd H a (.dK kvs) ∧ ∀ p, H p = none → Q (.ref p) (upd H p (.lst (kvs.map fun kv => kV kv.1)))) := CallR.or call_list_of (call_listD hc)
theorem Rpk.keysU {B : Hp} : ∀ {xs : List (Key × U)} {vs : List (Key × V)}, Rpk B xs vs → Rps B (xs.map fun kv => kU kv.1) (vs.map fun kv => kV kv.1)
  | _, _, .nil => .nil
  | _, _, .cons _ t => .cons (rp_key _) (Rpk.keysU t)
def listB : U → Option U := fun x => x.iter.map U.lst
/-- the same, new -/
def listNB : U → Option U := fun x => x.iter.map U.frl
theorem iter_call {K : PySem.W.Frag} {x : U} {xs : List U} (e : x.iter = some xs) {v : V} {B H : Hp} (s : Same B H) (rx : Rp B x v) {Q : VK} (q : ∀ p vs, H p = none → Rps B xs vs → Q (.ref p) (upd H p (.lst vs))) :
    (∃ p ys, [v] = [V.ref p] ∧ (SqL K H p ys ∨ SqT K H p ys) ∧ ∀ l, H l = none → Q (.ref l) (upd H l (.lst ys))) ∨
    ∃ (a : Addr) (kvs : List (Key × V)), [v] = [V.ref a] ∧ Rd H a (.dK kvs) ∧ ∀ p, H p = none → Q (.ref p) (upd H p (.lst (kvs.map fun kv => kV kv.1))) := by
  cases rx with
  | @lst a xs vs h r => cases e; exact .inl ⟨a, vs, rfl, .inl (SqL.of (s _ _ h)), fun p hp => q _ _ hp r⟩
  | @tup a xs vs h r => cases e; exact .inl ⟨a, vs, rfl, .inr (SqT.of (s _ _ h)), fun p hp => q _ _ hp r⟩
  | @tpd a xs vs o h _ r => cases e; exact .inl ⟨a, vs, rfl, .inr (.inl (.inr ⟨o, s _ _ h⟩)), fun p hp => q _ _ hp r⟩
  | @frl a xs vs o h r => cases e; exact .inl ⟨a, vs, rfl, .inl (.inl (.inr ⟨o, s _ _ h⟩)), fun p hp => q _ _ hp r⟩
  | @dic a kvs es o h r => cases e; exact .inr ⟨a, es, rfl, .inr ⟨o, s _ _ h⟩, fun p hp => q _ _ hp r.keysU⟩
  | _ => cases e
theorem rc_listB {K : PySem.W.Frag} : RC (fun xs H Q => (∃ p ys, xs = [V.ref p] ∧ (SqL K H p ys ∨ SqT K H p ys) ∧ ∀ l, H l = none → Q (.ref l) (upd H l (.lst ys))) ∨
    ∃ (a : Addr) (kvs : List (Key × V)), xs = [V.ref a] ∧ Rd H a (.dK kvs) ∧ ∀ p, H p = none → Q (.ref p) (upd H p (.lst (kvs.map fun kv => kV kv.1)))) (c1 listB) := rc_one c1_one fun x z e v B H s rx Q q => by
  obtain ⟨xs, ex, e⟩ := map_some (show x.iter.map U.lst = some z from e)
  subst e
  exact iter_call ex s rx fun p vs hp r => q _ _ _ (Go.new s hp) (.lst upd_same (r.new s hp))
section
variable {M : Addr → Prop} {ps : List Addr} {σ : St} {B H : Hp} {te : TE} {tl : TA} {F : SM U} {K : PySem.W.Frag}
theorem en_listB {F : SM (List U)} (ha : EvAS M ps σ B tl F) : EvN M ps σ B (tCB (fun xs H Q => (∃ p ys, xs = [V.ref p] ∧ (SqL K H p ys ∨ SqT K H p ys) ∧ ∀ l, H l = none → Q (.ref l) (upd H l (.lst ys))) ∨
    ∃ (a : Addr) (kvs : List (Key × V)), xs = [V.ref a] ∧ Rd H a (.dK kvs) ∧ ∀ p, H p = none → Q (.ref p) (upd H p (.lst (kvs.map fun kv => kV kv.1)))) tl) (callS (c1 listNB) F) := fun us z us' e B1 H1 g w Q q => by
  obtain ⟨x, us1, ex, e⟩ := bindS_some e
  obtain ⟨ee, rfl⟩ := pureS_some e; clear e; have e := ee; clear ee
  obtain ⟨x1, rfl⟩ := c1_one _ _ e
  obtain ⟨xs, exs, e⟩ := map_some (show x1.iter.map U.frl = some z from e)
  subst e
  refine ha _ _ _ ex B1 H1 g w _ fun vs B2 H2 g2 r w2 => ?_
  cases r with
  | cons r1 t =>
    cases t
    exact iter_call exs g2.bh r1 fun p vs hp r => q p B2 _ (g2.trans (.of (Go.own g2.bh hp))) (g2.n p hp) (g2.bh.free hp) (OwnAt.new r) (w2.go (Go.own g2.bh hp))
end
/-! ### text -/
def strsU : List U → Option (List Str)
  | [] => some []
  | .str s :: r => (strsU r).map fun z => s :: z
  | _ :: _ => none
theorem Rps.strs {B : Hp} : ∀ {xs : List U} {vs : List V} {ss : List Str}, Rps B xs vs → strsU xs = some ss → vs = ss.map V.str
  | _, _, _, .nil, h => by cases h; rfl
  | _, _, _, .cons (.str s) t, h => by
    obtain ⟨z, ez, h⟩ := map_some h
    subst h
    rw [List.map_cons, t.strs ez]
theorem Rps.ofStrs {B : Hp} : ∀ (ss : List Str), Rps B (ss.map U.str) (ss.map V.str)
  | [] => .nil
  | _ :: r => .cons (.str _) (Rps.ofStrs r)
def splitV : U → U → Option U
  | .str a, .str b => if b.length ≠ 0 ∧ a.length ≤ lim then some (.lst ((Txt.split a b).map U.str)) else none
  | _, _ => none
def joinV : U → U → Option U
  | .str a, x => match x with
    | .lst xs => (strsU xs).bind fun ss => if (ss.map (·.length)).sum + ss.length * a.length ≤ 16777216 then some (.str (Txt.join a ss)) else none
    | .tup xs => (strsU xs).bind fun ss => if (ss.map (·.length)).sum + ss.length * a.length ≤ 16777216 then some (.str (Txt.join a ss)) else none
    | .frl xs => (strsU xs).bind fun ss => if (ss.map (·.length)).sum + ss.length * a.length ≤ 16777216 then some (.str (Txt.join a ss)) else none
    | _ => none
  | _, _ => none
theorem lim_two {n : Nat} (h : n ≤ lim) : n + 2 ≤ sizeLine := Nat.le_trans (Nat.add_le_add_right h 2) (by decide)
section
variable {σ : St} {B H : Hp} {te tl ta tb : TE} {oa ob : Option U} {K : PySem.W.Frag}
theorem eo_split (ha : EvO ta σ B H oa) (hb : EvO tb σ B H ob) : EvO (tM1 (fun x xs H Q => ∃ a b, x = .str a ∧ xs = [.str b] ∧ (b.length == 0) = false ∧ a.length + 2 ≤ sizeLine ∧ rNewStrs (Txt.split a b) H Q) ta tb) σ B H (op2 splitV oa ob) := fun z e B1 H1 g Q q => by
  obtain ⟨x, ex, e⟩ := bind_some e
  obtain ⟨y, ey, e⟩ := bind_some e
  refine ha x ex B1 H1 g _ fun v B2 H2 g2 r2 => ?_
  unfold splitV at e
  split at e
  · rename_i a b
    split at e
    · rename_i hl
      cases e
      cases r2
      refine ⟨⟨_, rfl⟩, hb _ ey B2 H2 (g.trans g2) _ fun w B3 H3 g3 r3 => ?_⟩
      cases r3
      exact ⟨_, _, rfl, rfl, by simpa using hl.1, lim_two hl.2, fun p hp => q _ _ _ ((g2.trans g3).trans (Go.new g3.bh hp)) (.lst upd_same ((Rps.ofStrs _).new g3.bh hp))⟩
    · cases e
  · cases e
theorem eo_join (ha : EvO ta σ B H oa) (hb : EvO tb σ B H ob) : EvO (tM1 (fun x xs H Q => ∃ a p, ∃ ys : List Str, x = .str a ∧ xs = [.ref p] ∧ (SqL K H p (ys.map V.str) ∨ SqT K H p (ys.map V.str)) ∧
      (ys.map (·.length)).sum + ys.length * a.length ≤ 16777216 ∧ Q (.str (Txt.join a ys)) H) ta tb) σ B H (op2 joinV oa ob) := fun z e B1 H1 g Q q => by
  obtain ⟨x, ex, e⟩ := bind_some e
  obtain ⟨y, ey, e⟩ := bind_some e
  refine ha x ex B1 H1 g _ fun v B2 H2 g2 r2 => ?_
  cases r2 with
  | str a =>
    refine ⟨⟨a, rfl⟩, hb _ ey B2 H2 (g.trans g2) _ fun w B3 H3 g3 r3 => ?_⟩
    cases r3 with
    | @lst p xs vs h r =>
      obtain ⟨ss, es, e⟩ := bind_some (show (strsU xs).bind _ = some z from e)
      split at e
      · rename_i hl
        cases e
        have := r.strs es; subst this
        exact ⟨a, p, ss, rfl, rfl, .inl (SqL.of (g3.bh _ _ h)), hl, q _ B3 H3 (g2.trans g3) (.str _)⟩
      · cases e
    | @tup p xs vs h r =>
      obtain ⟨ss, es, e⟩ := bind_some (show (strsU xs).bind _ = some z from e)
      split at e
      · rename_i hl
        cases e
        have := r.strs es; subst this
        exact ⟨a, p, ss, rfl, rfl, .inr (SqT.of (g3.bh _ _ h)), hl, q _ B3 H3 (g2.trans g3) (.str _)⟩
      · cases e
    | @frl p xs vs o h r =>
      obtain ⟨ss, es, e⟩ := bind_some (show (strsU xs).bind _ = some z from e)
      split at e
      · rename_i hl
        cases e
        have := r.strs es; subst this
        exact ⟨a, p, ss, rfl, rfl, .inl (.inl (.inr ⟨o, g3.bh _ _ h⟩)), hl, q _ B3 H3 (g2.trans g3) (.str _)⟩
      · cases e
    | _ => cases e
  | _ => cases e
/-! xs.index(y), texts -/
def idxS (y : Str) : List Str → Nat → Option Nat
  | [], _ => none
  | s :: r, n => if s = y then some n else idxS y r (n + 1)
theorem idxS_some {y : Str} : ∀ {ss : List Str} {n j : Nat}, idxS y ss n = some j → n ≤ j ∧ ss[j - n]? = some y ∧ ∀ (m : Nat) z, m < j - n → ss[m]? = some z → z ≠ y
  | [], n, j, h => by cases h
  | s :: r, n, j, h => by
    unfold idxS at h
    split at h
    · rename_i e
      cases h
      subst e
      exact ⟨Nat.le_refl _, by simp, fun m z hm => by omega⟩
    · rename_i hn
      obtain ⟨h1, h2, h3⟩ := idxS_some h
      refine ⟨by omega, ?_, fun m z hm hz => ?_⟩
      · have e : j - n = (j - (n + 1)) + 1 := by omega
        rw [e, List.getElem?_cons_succ]; exact h2
      · cases m with
        | zero => simp at hz; subst hz; exact hn
        | succ m => exact h3 m z (by omega) (by simpa using hz)
def indexV : U → U → Option U
  | .lst xs, .str y => (strsU xs).bind fun ss => (idxS y ss 0).map fun j => .int (j : Nat)
  | .frl xs, .str y => (strsU xs).bind fun ss => (idxS y ss 0).map fun j => .int (j : Nat)
  | _, _ => none
theorem index_of {a : Addr} {ss : List Str} {y : Str} {j : Nat} {H : Hp} {Q : VK} (hs : SqL K H a (ss.map V.str)) (ej : idxS y ss 0 = some j) (q : Q (.int (j : Nat)) H) : rIndex K (.ref a) [.str y] H Q := by
  obtain ⟨_, h2, h3⟩ := idxS_some ej
  refine ⟨a, _, .str y, j, .str y, rfl, rfl, hs, rfl, by simp [flatV], by simpa using h2, by simp [eqV], fun m z hm hz => ?_, q⟩
  rw [List.getElem?_map] at hz
  obtain ⟨t, et, hz⟩ := map_some hz
  subst hz
  have := h3 m t (by omega) et
  simp [eqV, this]
theorem eo_index (ha : EvO ta σ B H oa) (hb : EvO tb σ B H ob) : EvO (tBM K "list" (rIndex K) ta (tCons tb tNil)) σ B H (op2 indexV oa ob) := fun z e B1 H1 g Q q => by
  obtain ⟨x, ex, e⟩ := bind_some e
  obtain ⟨y, ey, e⟩ := bind_some e
  refine ha x ex B1 H1 g _ fun v B2 H2 g2 r2 => ?_
  cases r2 with
  | @lst a xs vs h r =>
    cases y with
    | str y =>
      obtain ⟨ss, es, e⟩ := bind_some (show (strsU xs).bind _ = some z from e)
      obtain ⟨j, ej, e⟩ := map_some e
      subst e
      have := r.strs es; subst this
      refine ⟨.inl ⟨rfl, _, SqL.of (g2.bh _ _ h)⟩, hb _ ey B2 H2 (g.trans g2) _ fun w B3 H3 g3 r3 => ?_⟩
      cases r3
      exact index_of (SqL.of (g3.bh _ _ (g3.b _ _ h))) ej (q _ B3 H3 (g2.trans g3) (.int _))
    | _ => cases e
  | @frl a xs vs o h r =>
    cases y with
    | str y =>
      obtain ⟨ss, es, e⟩ := bind_some (show (strsU xs).bind _ = some z from e)
      obtain ⟨j, ej, e⟩ := map_some e
      subst e
      have := r.strs es; subst this
      refine ⟨.inl ⟨rfl, _, .inl (.inr ⟨o, g2.bh _ _ h⟩)⟩, hb _ ey B2 H2 (g.trans g2) _ fun w B3 H3 g3 r3 => ?_⟩
      cases r3
      exact index_of (.inl (.inr ⟨o, g3.bh _ _ (g3.b _ _ h)⟩)) ej (q _ B3 H3 (g2.trans g3) (.int _))
    | _ => cases e
  | _ => cases e
/-! ### objects -/
theorem Rpf.look {B : Hp} (k : Str) : ∀ {xs : List (Str × U)} {vs : List (Str × V)}, Rpf B xs vs → (∀ x, xs.lookup k = some x → ∃ v, vs.lookup k = some v ∧ Rp B x v) ∧ (xs.lookup k = none → vs.lookup k = none)
  | _, _, .nil => ⟨fun x h => (by cases h), fun _ => rfl⟩
  | _, _, @Rpf.cons _ _ k' x v xs vs r t => by
    obtain ⟨i1, i2⟩ := Rpf.look k t
    simp only [List.lookup_cons]
    cases k == k' with
    | true => exact ⟨fun y h => by cases h; exact ⟨v, rfl, r⟩, fun h => by cases h⟩
    | false => exact ⟨i1, i2⟩
/-- x.f of an instance of the class numbered C -/
def fldV (C : Nat) (f : Str) : U → Option U
  | .obj D fs => if D = C then fs.lookup f else none
  | _ => none
theorem eo_fld {C : Nat} {f : Str} (c : Cls K (CTab.ct C)) (n : NoAttr K (CTab.ct C) f) (h : EvO ta σ B H oa) : EvO (tFld K ta f) σ B H (op1 (fldV C f) oa) := fun z e B1 H1 g Q q => by
  obtain ⟨x, ex, e⟩ := bind_some e
  refine h x ex B1 H1 g _ fun v B2 H2 g2 r => ?_
  cases r with
  | @obj a dx D fs es h1 h2 r =>
    have e2 : (if D = C then fs.lookup f else none) = some z := e
    clear e
    split at e2
    · rename_i hD
      subst hD
      obtain ⟨v, ev, rv⟩ := (r.look f).1 z e2
      exact ⟨a, _, dx, es, v, rfl, g2.bh _ _ h1, c, n, ev, q v B2 H2 g2 rv⟩
    · cases e2
  | _ => cases e
/-- x.m(..), which changes nothing -/
def methV (C : Nat) (m : Str) (f : List U → Option U) (x : U) (xs : List U) : Option U := match x with
  | .obj D fs => if D = C ∧ fs.lookup m = none then f (x :: xs) else none
  | _ => none
def noneQ {α : Type} : Option α → Bool
  | none => true
  | some _ => false
def methO (C : Nat) (m : Str) (f : List U → Option U) (a : Option U) (ol : Option (List U)) : Option U := a.bind fun x => match x with
  | .obj D fs => if D = C ∧ noneQ (fs.lookup m) = true then ol.bind fun xs => f (.obj D fs :: xs) else none
  | _ => none
theorem eo_meth {C : Nat} {m : Str} {f : List U → Option U} {E : XK} {tl : TA} {ol : Option (List U)} (h : EvO ta σ B H oa) (hl : EvA tl σ B H ol) : EvO (tMeth (CTab.ct C) m (spU f) [] E ta tl) σ B H (methO C m f oa ol) := fun z e B1 H1 g Q q => by
  obtain ⟨x, ex, e⟩ := bind_some e
  refine h x ex B1 H1 g _ fun v B2 H2 g2 r => ?_
  cases r with
  | @obj a dx D fs es h1 h2 r =>
    have e2 : (if D = C ∧ noneQ (fs.lookup m) = true then ol.bind fun xs => f (.obj D fs :: xs) else none) = some z := e
    clear e
    split at e2
    · rename_i hD
      obtain ⟨hD, hm⟩ := hD
      subst hD
      obtain ⟨xs, exs, e⟩ := bind_some e2
      have hm' : fs.lookup m = none := by
        cases q : fs.lookup m with
        | none => rfl
        | some u => rw [q] at hm; cases hm
      refine ⟨a, dx, es, rfl, g2.bh _ _ h1, (r.look m).2 hm', hl xs exs B2 H2 (g.trans g2) _ fun vs B3 H3 g3 r3 => ?_⟩
      show spU f (.ref a :: (vs ++ [])) H3 Q E
      rw [List.append_nil]
      exact ⟨B3, _, z, g3.bh, .cons ((Rp.obj h1 h2 r).up g3) r3, e, fun v B4 H4 g4 r4 => q v B4 H4 ((g2.trans g3).trans g4) r4⟩
    · cases e2
  | _ => cases e
end
end Dn
set_option Elab.async false
set_option linter.all false
set_option maxRecDepth 100000
set_option maxHeartbeats 2000000
namespace Dn
open PySem L2
variable [CTab]
def U.plc : U → Bool
  | .frl xs => U.pls xs
  | .dic kvs => kvs.all fun kv => kv.2.pl
  | .dit kvs => kvs.all fun kv => kv.2.pl
  | .non => true
  | _ => false
section
variable {B B' : Hp} {p : Addr} {od : Obj} {u0 : HO}
theorem Rpk.erase (hp : B p = some (.frz od u0)) (s : ∀ a o, B a = some o → a ≠ p → B' a = some o) : ∀ {u : List (Key × U)} {v : List (Key × V)}, Rpk B u v → (u.all fun kv => kv.2.pl) = true → Rpk B' u v
  | _, _, .nil, _ => .nil
  | _, _, .cons h r, e => by
    rw [List.all_cons, Bool.and_eq_true] at e
    exact .cons (h.erase hp s e.1) (Rpk.erase hp s r e.2)
theorem Rpt.erase (hp : B p = some (.frz od u0)) (s : ∀ a o, B a = some o → a ≠ p → B' a = some o) : ∀ {u : List (List Key × U)} {v : List (List Key × V)}, Rpt B u v → (u.all fun kv => kv.2.pl) = true → Rpt B' u v
  | _, _, .nil, _ => .nil
  | _, _, .cons h r, e => by
    rw [List.all_cons, Bool.and_eq_true] at e
    exact .cons (h.erase hp s e.1) (Rpt.erase hp s r e.2)
theorem OwnAt.erase {H H2 : Hp} {q : Addr} {u : U} (hp : B p = some (.frz od u0)) (s : ∀ a o, B a = some o → a ≠ p → B' a = some o) (o : OwnAt B H q u) (e : H2 q = H q) (h : u.plc = true) : OwnAt B' H2 q u := by
  cases u with
  | frl xs => obtain ⟨vs, h1, r⟩ := o; exact ⟨vs, e.trans h1, r.erase hp s h⟩
  | dic xs => obtain ⟨vs, h1, r⟩ := o; exact ⟨vs, e.trans h1, r.erase hp s h⟩
  | dit xs => obtain ⟨vs, h1, r⟩ := o; exact ⟨vs, e.trans h1, r.erase hp s h⟩
  | _ => exact o.elim
end
def lockS (j : Nat) (F : U → SM U) : SM U := fun us => us[j]?.bind fun u => if u.own = true then (F u (us.set j .non)).bind fun r => if r.1.pl = true ∧ r.2.all U.plc = true then some (r.1, r.2.set j u) else none else none
section
variable {M : Addr → Prop} {ps : List Addr} {σ : St} {B H : Hp} {ta tb tc te : TE} {t : TT} {tl tr : TA} {F G : SM U} {K : PySem.W.Frag} {j : Nat} {p : Addr}
theorem es_lockS {F : U → SM U} (hp : ps[j]? = some p) (h : ∀ u B', Same B B' → Rp B' u (.ref p) → EvS M ps σ B' te (F u)) : EvS M ps σ B (tLockE te) (lockS j F) := fun us z us' e B1 H1 g w Q q => by
  obtain ⟨u, eu, e⟩ := bind_some e
  split at e
  · rename_i ho
    obtain ⟨⟨z1, us2⟩, ez, e⟩ := bind_some e
    split at e
    · rename_i hz
      cases e
      have wp := w.at_ j p u hp eu
      obtain ⟨hb, ow⟩ := wp.own ho
      obtain ⟨o1, e1, mu, hl⟩ := ow.lock
      refine ⟨p, o1, e1, mu, fun od => ?_⟩
      have r1 : Rp (upd B1 p (.frz od o1)) u (.ref p) := (hl od).resolve_right (fun z => z hb)
      have s1 : Same (upd B1 p (.frz od o1)) (upd H1 p (.frz od o1)) := fun b x hx => by
        by_cases hbp : b = p
        · subst hbp; rw [upd_same] at hx ⊢; exact hx
        · rw [upd_ne hbp] at hx ⊢; exact g.bh b x hx
      have w1 : Ows M (upd B1 p (.frz od o1)) (upd H1 p (.frz od o1)) ps (us.set j .non) :=
        w.set hp (fun q _ hq o e => by rw [upd_ne hq]; exact e) (same_lock hb) (fun q _ hq hn => by rw [upd_ne hq]; exact hn) ⟨wp.m, ⟨_, upd_same⟩, .inl rfl⟩
      refine h u _ (g.b.trans (same_lock hb)) r1 _ _ _ ez _ _ (At.refl s1) w1 _ fun v B2 H2 g2 r2 w2 => ?_
      have eB : B2 p = some (.frz od o1) := g2.b _ _ upd_same
      have eH : H2 p = some (.frz od o1) := g2.bh _ _ eB
      have er : ∀ a o, B2 a = some o → a ≠ p → eraseB B2 p a = some o := fun a x hx ha => by rw [erase_ne ha]; exact hx
      have sB : Same B1 (eraseB B2 p) := fun a x hx => by
        have ha : a ≠ p := ne_of_none hx hb
        rw [erase_ne ha]; exact g2.b a x (by rw [upd_ne ha]; exact hx)
      have gg : Gs (inP ps) B1 H1 (eraseB B2 p) (upd H2 p o1) := by
        refine ⟨fun a x hx hm => ?_, fun a hx => ?_, sB, fun a x hx => ?_, fun a x hx => ?_⟩
        · have ha : a ≠ p := fun z => hm (by rw [z]; exact List.mem_of_getElem? hp)
          rw [upd_ne ha]; exact g2.h a x (by rw [upd_ne ha]; exact hx) hm
        · by_cases ha : a = p
          · subst ha; rw [upd_same] at hx; cases hx
          · rw [upd_ne ha] at hx
            have := g2.n a hx
            rwa [upd_ne ha] at this
        · by_cases ha : a = p
          · subst ha; rw [erase_same] at hx; cases hx
          · rw [erase_ne ha] at hx; rw [upd_ne ha]; exact g2.bh a x hx
        · by_cases ha : a = p
          · subst ha; rw [erase_same] at hx; cases hx
          · rw [erase_ne ha] at hx
            rcases g2.fr a x hx with z | z | z
            · rw [upd_ne ha] at z; exact .inl z
            · rw [upd_ne ha] at z; exact .inr (.inl z)
            · exact .inr (.inr z)
      have hj : j < us2.length := by rw [w2.len]; exact (List.getElem?_eq_some_iff.mp hp).1
      have wf : Ows M (eraseB B2 p) (upd H2 p o1) ps (us2.set j u) := by
        refine ⟨by rw [List.length_set, w2.len], w2.nd, fun i q v hq hv => ?_⟩
        by_cases hij : i = j
        · subst hij
          rw [hp] at hq; cases hq
          rw [List.getElem?_set_self hj] at hv; cases hv
          exact ⟨wp.m, ⟨_, upd_same⟩, .inr ⟨erase_same, ow.up (fun o e => by rw [upd_same, ← e1]; exact e) sB⟩⟩
        · rw [List.getElem?_set_ne (Ne.symm hij)] at hv
          have hne : q ≠ p := fun z => hij (w2.nd i j q hq (by rw [z]; exact hp))
          obtain ⟨q1, ⟨o, q2⟩, q3⟩ := w2.at_ i q v hq hv
          refine ⟨q1, ⟨o, by rw [upd_ne hne]; exact q2⟩, ?_⟩
          rcases q3 with q3 | ⟨q3, q4⟩
          · exact .inl q3
          · refine .inr ⟨by rw [erase_ne hne]; exact q3, q4.erase eB er (upd_ne hne) ?_⟩
            exact List.all_eq_true.mp hz.2 v (List.mem_of_getElem? hv)
      exact ⟨eH, q v _ _ gg (r2.erase eB er hz.1) wf⟩
    · cases e
  · cases e
/-! slices with a state -/
def ptS (F : SM U) : SM (Option Int) := bindS F fun x => pureS (x.asI.map some)
theorem eps_of1 (h : EvS M ps σ B te F) : EvPS M ps σ B (tPart te) (ptS F) := fun us z us' e B1 H1 g w Q q => by
  obtain ⟨x, us1, ex, e⟩ := bindS_some e
  obtain ⟨ee, rfl⟩ := pureS_some e; clear e
  obtain ⟨i, ei, e⟩ := map_some ee
  subst e
  cases x <;> cases ei
  exact h _ _ _ ex B1 H1 g w _ fun v B2 H2 g2 r w2 => by cases r; exact ⟨_, rfl, q B2 H2 g2 w2⟩
def slS (F : SM U) (L Hh : SM (Option Int)) : SM U := bindS F fun x => bindS L fun lo => bindS Hh fun hi => pureS (sliceV x lo hi)
theorem es_slice {tlo thi : TO} {L Hh : SM (Option Int)} (h : EvS M ps σ B te F) (hl : EvPS M ps σ B tlo L) (hh : EvPS M ps σ B thi Hh) : EvS M ps σ B (tSl (rSlU K) te tlo thi) (slS F L Hh) := fun us z us' e B1 H1 g w Q q => by
  obtain ⟨x, us1, ex, e⟩ := bindS_some e
  obtain ⟨lo, us2, el, e⟩ := bindS_some e
  obtain ⟨hi, us3, eh, e⟩ := bindS_some e
  obtain ⟨ee, rfl⟩ := pureS_some e; clear e; have e := ee; clear ee
  refine h _ _ _ ex B1 H1 g w _ fun v B2 H2 g2 r2 w2 => hl _ _ _ el B2 H2 (g.trs g2) w2 _ fun B3 H3 g3 w3 => hh _ _ _ eh B3 H3 ((g.trs g2).trs g3) w3 _ fun B4 H4 g4 w4 => ?_
  have r4 := (r2.upA g3.at).upA g4.at
  have h0 : EvO (fun _ H Q => Q v H) σ B4 H4 (some x) := fun z ez B3 H3 g3 Q q => by cases ez; exact q v B3 H3 (Go.refl g3.bh) (r4.upA g3)
  have h1 : EvP (fun _ H Q => Q lo H) σ B4 H4 (some lo) := fun z ez B3 H3 g3 Q q => by cases ez; exact q B3 H3 (Go.refl g3.bh)
  have h2 : EvP (fun _ H Q => Q hi H) σ B4 H4 (some hi) := fun z ez B3 H3 g3 Q q => by cases ez; exact q B3 H3 (Go.refl g3.bh)
  exact eo_slice (K := K) h0 h1 h2 z (by simpa using e) B4 H4 (At.refl g4.bh) Q fun v5 B5 H5 g5 r5 => q v5 B5 H5 (((g2.trans g3).trans g4).trans (.of g5)) r5 (w4.go g5)
end
section
variable {vs : List V} {H : Hp} {Q : VK} {E : XK}
theorem sn0 {f : Option U} (h : spN (a0 f) vs H Q E) : ∃ B r, vs = [] ∧ Same B H ∧ f = some r ∧ ∀ p B2 H2, Go B H B2 H2 → H p = none → B2 p = none → OwnAt B2 H2 p r → Q (.ref p) H2 := by
  obtain ⟨B, xs, r, s, rs, e, k⟩ := h
  match xs, rs, e with
  | [], .nil, e => exact ⟨B, r, rfl, s, e, k⟩
theorem sn1 {f : U → Option U} (h : spN (a1 f) vs H Q E) : ∃ B x v r, vs = [v] ∧ Same B H ∧ Rp B x v ∧ f x = some r ∧ ∀ p B2 H2, Go B H B2 H2 → H p = none → B2 p = none → OwnAt B2 H2 p r → Q (.ref p) H2 := by
  obtain ⟨B, xs, r, s, rs, e, k⟩ := h
  match xs, rs, e with
  | [x], .cons r1 .nil, e => exact ⟨B, x, _, r, rfl, s, r1, e, k⟩
theorem sn2 {f : U → U → Option U} (h : spN (a2 f) vs H Q E) : ∃ B x y v w r, vs = [v, w] ∧ Same B H ∧ Rp B x v ∧ Rp B y w ∧ f x y = some r ∧ ∀ p B2 H2, Go B H B2 H2 → H p = none → B2 p = none → OwnAt B2 H2 p r → Q (.ref p) H2 := by
  obtain ⟨B, xs, r, s, rs, e, k⟩ := h
  match xs, rs, e with
  | [x, y], .cons r1 (.cons r2 .nil), e => exact ⟨B, x, y, _, _, r, rfl, s, r1, r2, e, k⟩
end
section
variable {α : Type} {R : α × List U} {β : Bs} {σ : St} {B H : Hp} {ps : List Addr} {us : List U} {K : PySem.W.Frag} {ta tb : TE} {tz : TS} {D : Ends} {F G : SM U} {i j : Nat}
theorem g_twoS {u : U} {v : V} {B1 H1 : Hp} {σ : St} {Q : St → Hp → Prop} {f : U → U → SM α} (s : Same B1 H1) (r : Rp B1 u v) (e : unpS u f us = some R) (k : ∀ a b x y, Rp B1 a x → Rp B1 b y → f a b us = some R → Q ((σ.set i (some x)).set j (some y)) H1) :
    gTup K 2 (gCons (gName i) (gCons (gName j) gNil)) v σ H1 Q := by
  obtain ⟨⟨a, b⟩, eu, e⟩ := bind_some e
  exact g_two s r eu fun x y ra rb => k a b x y ra rb e
/-- a, b = two new ones -/
theorem q_parNN {f : SM α} (W : Wh β B H ps us) (ha : EvN β.M ps σ B ta F) (hb : EvN β.M ps σ B tb G) (e : bindS F (fun x => bindS G fun y => addS x (addS y f)) us = some R)
    (k : ∀ p q B1 H1 us1, Wh β B1 H1 (ps ++ [p, q]) us1 → Same B B1 → f us1 = some R → tz D ((σ.set i (some (.ref p))).set j (some (.ref q))) H1) : tSeq (tPar i j (tCons ta (tCons tb tNil))) tz D σ H := by
  obtain ⟨x, us1, ex, e⟩ := bindS_some e
  obtain ⟨y, us2, ey, e⟩ := bindS_some e
  refine ha _ _ _ ex B H W.at W.w _ fun p B2 H2 g2 n2 b2 o2 w2 => hb _ _ _ ey B2 H2 (W.at.trs g2) w2 _ fun q B3 H3 g3 n3 b3 o3 w3 => ⟨_, _, rfl, ?_⟩
  obtain ⟨ob, eb⟩ := o2.ex
  have hnp : p ∉ ps := W.w.fresh n2
  have hpq : q ≠ p := fun z => by rw [z, eb] at n3; cases n3
  have o2' : OwnAt B3 H3 p x := o2.up (fun o e => g3.h p o e hnp) g3.b
  have W1 := W.new (u := x) (g2.trans g3) w3 n2 (g3.noB b2 eb hnp) o2'
  have hq : q ∉ ps ++ [p] := fun z => by
    rcases List.mem_append.mp z with z | z
    · exact w2.fresh n3 z
    · simp at z; exact hpq z
  have W2 : Wh β B3 H3 ((ps ++ [p]) ++ [q]) ((us2 ++ [x]) ++ [y]) := ⟨W1.g, W1.w.add hq ⟨.inr (W.g.n q (g2.n q n3)), o3.ex, .inr ⟨b3, o3⟩⟩, fun r hr => by
    have := W1.hd r hr
    cases ps with
    | nil => simpa using this
    | cons a t => simpa using this⟩
  rw [List.append_assoc] at W2
  exact k p q B3 H3 _ W2 (g2.b.trans g3.b) e
theorem q_parNV {f : U → SM α} (W : Wh β B H ps us) (ha : EvN β.M ps σ B ta F) (hb : EvS β.M ps σ B tb G) (e : bindS F (fun x => bindS G fun y => addS x (f y)) us = some R)
    (k : ∀ p y w B1 H1 us1, Rp B1 y w → Wh β B1 H1 (ps ++ [p]) us1 → Same B B1 → f y us1 = some R → tz D ((σ.set i (some (.ref p))).set j (some w)) H1) : tSeq (tPar i j (tCons ta (tCons tb tNil))) tz D σ H := by
  obtain ⟨x, us1, ex, e⟩ := bindS_some e
  obtain ⟨y, us2, ey, e⟩ := bindS_some e
  refine ha _ _ _ ex B H W.at W.w _ fun p B2 H2 g2 n2 b2 o2 w2 => hb _ _ _ ey B2 H2 (W.at.trs g2) w2 _ fun v B3 H3 g3 r3 w3 => ⟨_, _, rfl, ?_⟩
  obtain ⟨ob, eb⟩ := o2.ex
  have hnp : p ∉ ps := W.w.fresh n2
  have o2' : OwnAt B3 H3 p x := o2.up (fun o e => g3.h p o e hnp) g3.b
  exact k p y v B3 H3 _ r3 (W.new (u := x) (g2.trans g3) w3 n2 (g3.noB b2 eb hnp) o2') (g2.b.trans g3.b) e
theorem q_parVN {f : U → SM α} (W : Wh β B H ps us) (ha : EvS β.M ps σ B ta F) (hb : EvN β.M ps σ B tb G) (e : bindS F (fun y => bindS G fun x => addS x (f y)) us = some R)
    (k : ∀ p y w B1 H1 us1, Rp B1 y w → Wh β B1 H1 (ps ++ [p]) us1 → Same B B1 → f y us1 = some R → tz D ((σ.set i (some w)).set j (some (.ref p))) H1) : tSeq (tPar i j (tCons ta (tCons tb tNil))) tz D σ H := by
  obtain ⟨x, us1, ex, e⟩ := bindS_some e
  obtain ⟨y, us2, ey, e⟩ := bindS_some e
  refine ha _ _ _ ex B H W.at W.w _ fun v B2 H2 g2 r2 w2 => hb _ _ _ ey B2 H2 (W.at.trs g2) w2 _ fun p B3 H3 g3 n3 b3 o3 w3 => ⟨_, _, rfl, ?_⟩
  exact k p x v B3 H3 _ (r2.upA g3.at) (W.new (u := y) (g2.trans g3) w3 (g2.n p n3) b3 o3) (g2.b.trans g3.b) e
end
end Dn
set_option Elab.async false
set_option linter.all false
set_option maxRecDepth 100000
set_option maxHeartbeats 2000000
namespace Dn
open PySem L2
variable [CTab]
/-! ### a, b, c, .. = a list or a tuple -/
def gAnyT (K : PySem.W.Frag) (n : Nat) (t : TGs) : TG := fun v σ H Q => gTup K n t v σ H Q ∨ gUnl K n t v σ H Q
theorem pg_any {X : Cx} {es : List Expr} {k : Nat} {t : TGs} {n : Nat} {pos : Pos} (hc : X.calm = true) (h : PGs X es t)
    (hn : (assignEach es X.env).length = n := by rfl) (hst : (assignEach es X.env).findIdx? (·.1) = none := by rfl) : PG X (.Tuple es k pos) (gAnyT X.K n t) := by
  refine ⟨fun pins s σ H v u Q I r hw => ?_⟩
  rcases hw with hw | hw
  · exact (pg_tup hc h hn hst).run pins s σ H v u Q I r hw
  · exact (pg_unl hc h hn hst).run pins s σ H v u Q I r hw
theorem any_of {K : PySem.W.Frag} {n : Nat} {t : TGs} {u : U} {xs : List U} {v : V} {B H : Hp} {σ : St} {Q : St → Hp → Prop} (s : Same B H) (r : Rp B u v) (e : u.seq = some xs) (hn : xs.length = n) (k : ∀ vs, Rps B xs vs → t vs σ H Q) : gAnyT K n t v σ H Q := by
  cases r with
  | @tup a _ vs e1 r => cases e; exact .inl ⟨a, vs, rfl, SqT.of (s _ _ e1), by rw [r.length]; exact hn, k vs r⟩
  | @lst a _ vs e1 r => cases e; exact .inr ⟨a, vs, rfl, SqL.of (s _ _ e1), by rw [r.length]; exact hn, k vs r⟩
  | @frl a _ vs o e1 r => cases e; exact .inr ⟨a, vs, rfl, .inl (.inr ⟨o, s _ _ e1⟩), by rw [r.length]; exact hn, k vs r⟩
  | _ => cases e
def unpN3 (u : U) : Option (U × U × U) := match u.seq with
  | some [x0, x1, x2] => some (x0, x1, x2)
  | _ => none
def unpF3 {α : Type} (u : U) (f : U → U → U → Option α) : Option α := (unpN3 u).bind fun t => f t.1 t.2.1 t.2.2
def unpS3 {α : Type} (u : U) (f : U → U → U → SM α) : SM α := fun us => (unpN3 u).bind fun t => f t.1 t.2.1 t.2.2 us
theorem g_unp3 {K : PySem.W.Frag} {u x0 x1 x2 : U} {v : V} {B H : Hp} {σ : St} {Q : St → Hp → Prop} {i0 i1 i2 : Nat} (s : Same B H) (r : Rp B u v) (e : unpN3 u = some (x0, x1, x2)) (k : ∀ v0 v1 v2, Rp B x0 v0 → Rp B x1 v1 → Rp B x2 v2 → Q (((σ.set i0 (some v0)).set i1 (some v1)).set i2 (some v2)) H) : gAnyT K 3 (gCons (gName i0) (gCons (gName i1) (gCons (gName i2) gNil))) v σ H Q := by
  unfold unpN3 at e
  split at e
  · rename_i eu
    cases e
    refine any_of s r eu rfl fun vs rs => ?_
    match vs, rs with
    | [v0, v1, v2], .cons r0 (.cons r1 (.cons r2 (.nil))) => exact ⟨_, _, rfl, ⟨_, _, rfl, ⟨_, _, rfl, rfl, k _ _ _ r0 r1 r2⟩⟩⟩
  · cases e
theorem q_unp3 {α : Type} {R : α} {K : PySem.W.Frag} {te : TE} {tz : TS} {D : Ends} {o : Option U} {f : U → U → U → Option α} {B H : Hp} {σ : St} {i0 i1 i2 : Nat} (s : Same B H) (h : EvO te σ B H o) (e : (o.bind fun u => unpF3 u f) = some R) (k : ∀ x0 x1 x2 v0 v1 v2 B1 H1, Go B H B1 H1 → Rp B1 x0 v0 → Rp B1 x1 v1 → Rp B1 x2 v2 → f x0 x1 x2 = some R → tz D (((σ.set i0 (some v0)).set i1 (some v1)).set i2 (some v2)) H1) : tSeq (tAsg te (gAnyT K 3 (gCons (gName i0) (gCons (gName i1) (gCons (gName i2) gNil))))) tz D σ H := by
  obtain ⟨u, eu, e⟩ := bind_some e
  obtain ⟨⟨x0, x1, x2⟩, ex, e⟩ := bind_some e
  exact h u eu B H (At.refl s) _ fun v B2 H2 g2 r2 => g_unp3 g2.bh r2 ex fun v0 v1 v2 r0 r1 r2 => k x0 x1 x2 v0 v1 v2 B2 H2 g2 r0 r1 r2 e
theorem q_unpS3 {α : Type} {R : α × List U} {β : Bs} {K : PySem.W.Frag} {te : TE} {tz : TS} {D : Ends} {F : SM U} {f : U → U → U → SM α} {B H : Hp} {σ : St} {ps : List Addr} {us : List U} {i0 i1 i2 : Nat} (W : Wh β B H ps us) (h : EvS β.M ps σ B te F) (e : bindS F (fun u => unpS3 u f) us = some R) (k : ∀ x0 x1 x2 v0 v1 v2 B1 H1 us1, Wh β B1 H1 ps us1 → Same B B1 → Rp B1 x0 v0 → Rp B1 x1 v1 → Rp B1 x2 v2 → f x0 x1 x2 us1 = some R → tz D (((σ.set i0 (some v0)).set i1 (some v1)).set i2 (some v2)) H1) : tSeq (tAsg te (gAnyT K 3 (gCons (gName i0) (gCons (gName i1) (gCons (gName i2) gNil))))) tz D σ H := by
  obtain ⟨u, us1, eu, e⟩ := bindS_some e
  obtain ⟨⟨x0, x1, x2⟩, ex, e⟩ := bind_some e
  exact h _ _ _ eu B H W.at W.w _ fun v B2 H2 g2 r2 w2 => g_unp3 g2.bh r2 ex fun v0 v1 v2 r0 r1 r2 => k x0 x1 x2 v0 v1 v2 B2 H2 us1 (W.step g2 w2) g2.b r0 r1 r2 e
def unpN4 (u : U) : Option (U × U × U × U) := match u.seq with
  | some [x0, x1, x2, x3] => some (x0, x1, x2, x3)
  | _ => none
def unpF4 {α : Type} (u : U) (f : U → U → U → U → Option α) : Option α := (unpN4 u).bind fun t => f t.1 t.2.1 t.2.2.1 t.2.2.2
def unpS4 {α : Type} (u : U) (f : U → U → U → U → SM α) : SM α := fun us => (unpN4 u).bind fun t => f t.1 t.2.1 t.2.2.1 t.2.2.2 us
theorem g_unp4 {K : PySem.W.Frag} {u x0 x1 x2 x3 : U} {v : V} {B H : Hp} {σ : St} {Q : St → Hp → Prop} {i0 i1 i2 i3 : Nat} (s : Same B H) (r : Rp B u v) (e : unpN4 u = some (x0, x1, x2, x3)) (k : ∀ v0 v1 v2 v3, Rp B x0 v0 → Rp B x1 v1 → Rp B x2 v2 → Rp B x3 v3 → Q ((((σ.set i0 (some v0)).set i1 (some v1)).set i2 (some v2)).set i3 (some v3)) H) : gAnyT K 4 (gCons (gName i0) (gCons (gName i1) (gCons (gName i2) (gCons (gName i3) gNil)))) v σ H Q := by
  unfold unpN4 at e
  split at e
  · rename_i eu
    cases e
    refine any_of s r eu rfl fun vs rs => ?_
    match vs, rs with
    | [v0, v1, v2, v3], .cons r0 (.cons r1 (.cons r2 (.cons r3 (.nil)))) => exact ⟨_, _, rfl, ⟨_, _, rfl, ⟨_, _, rfl, ⟨_, _, rfl, rfl, k _ _ _ _ r0 r1 r2 r3⟩⟩⟩⟩
  · cases e
theorem q_unp4 {α : Type} {R : α} {K : PySem.W.Frag} {te : TE} {tz : TS} {D : Ends} {o : Option U} {f : U → U → U → U → Option α} {B H : Hp} {σ : St} {i0 i1 i2 i3 : Nat} (s : Same B H) (h : EvO te σ B H o) (e : (o.bind fun u => unpF4 u f) = some R) (k : ∀ x0 x1 x2 x3 v0 v1 v2 v3 B1 H1, Go B H B1 H1 → Rp B1 x0 v0 → Rp B1 x1 v1 → Rp B1 x2 v2 → Rp B1 x3 v3 → f x0 x1 x2 x3 = some R → tz D ((((σ.set i0 (some v0)).set i1 (some v1)).set i2 (some v2)).set i3 (some v3)) H1) : tSeq (tAsg te (gAnyT K 4 (gCons (gName i0) (gCons (gName i1) (gCons (gName i2) (gCons (gName i3) gNil)))))) tz D σ H := by
  obtain ⟨u, eu, e⟩ := bind_some e
  obtain ⟨⟨x0, x1, x2, x3⟩, ex, e⟩ := bind_some e
  exact h u eu B H (At.refl s) _ fun v B2 H2 g2 r2 => g_unp4 g2.bh r2 ex fun v0 v1 v2 v3 r0 r1 r2 r3 => k x0 x1 x2 x3 v0 v1 v2 v3 B2 H2 g2 r0 r1 r2 r3 e
theorem q_unpS4 {α : Type} {R : α × List U} {β : Bs} {K : PySem.W.Frag} {te : TE} {tz : TS} {D : Ends} {F : SM U} {f : U → U → U → U → SM α} {B H : Hp} {σ : St} {ps : List Addr} {us : List U} {i0 i1 i2 i3 : Nat} (W : Wh β B H ps us) (h : EvS β.M ps σ B te F) (e : bindS F (fun u => unpS4 u f) us = some R) (k : ∀ x0 x1 x2 x3 v0 v1 v2 v3 B1 H1 us1, Wh β B1 H1 ps us1 → Same B B1 → Rp B1 x0 v0 → Rp B1 x1 v1 → Rp B1 x2 v2 → Rp B1 x3 v3 → f x0 x1 x2 x3 us1 = some R → tz D ((((σ.set i0 (some v0)).set i1 (some v1)).set i2 (some v2)).set i3 (some v3)) H1) : tSeq (tAsg te (gAnyT K 4 (gCons (gName i0) (gCons (gName i1) (gCons (gName i2) (gCons (gName i3) gNil)))))) tz D σ H := by
  obtain ⟨u, us1, eu, e⟩ := bindS_some e
  obtain ⟨⟨x0, x1, x2, x3⟩, ex, e⟩ := bind_some e
  exact h _ _ _ eu B H W.at W.w _ fun v B2 H2 g2 r2 w2 => g_unp4 g2.bh r2 ex fun v0 v1 v2 v3 r0 r1 r2 r3 => k x0 x1 x2 x3 v0 v1 v2 v3 B2 H2 us1 (W.step g2 w2) g2.b r0 r1 r2 r3 e
def unpN5 (u : U) : Option (U × U × U × U × U) := match u.seq with
  | some [x0, x1, x2, x3, x4] => some (x0, x1, x2, x3, x4)
  | _ => none
def unpF5 {α : Type} (u : U) (f : U → U → U → U → U → Option α) : Option α := (unpN5 u).bind fun t => f t.1 t.2.1 t.2.2.1 t.2.2.2.1 t.2.2.2.2
def unpS5 {α : Type} (u : U) (f : U → U → U → U → U → SM α) : SM α := fun us => (unpN5 u).bind fun t => f t.1 t.2.1 t.2.2.1 t.2.2.2.1 t.2.2.2.2 us
theorem g_unp5 {K : PySem.W.Frag} {u x0 x1 x2 x3 x4 : U} {v : V} {B H : Hp} {σ : St} {Q : St → Hp → Prop} {i0 i1 i2 i3 i4 : Nat} (s : Same B H) (r : Rp B u v) (e : unpN5 u = some (x0, x1, x2, x3, x4)) (k : ∀ v0 v1 v2 v3 v4, Rp B x0 v0 → Rp B x1 v1 → Rp B x2 v2 → Rp B x3 v3 → Rp B x4 v4 → Q (((((σ.set i0 (some v0)).set i1 (some v1)).set i2 (some v2)).set i3 (some v3)).set i4 (some v4)) H) : gAnyT K 5 (gCons (gName i0) (gCons (gName i1) (gCons (gName i2) (gCons (gName i3) (gCons (gName i4) gNil))))) v σ H Q := by
  unfold unpN5 at e
  split at e
  · rename_i eu
    cases e
    refine any_of s r eu rfl fun vs rs => ?_
    match vs, rs with
    | [v0, v1, v2, v3, v4], .cons r0 (.cons r1 (.cons r2 (.cons r3 (.cons r4 (.nil))))) => exact ⟨_, _, rfl, ⟨_, _, rfl, ⟨_, _, rfl, ⟨_, _, rfl, ⟨_, _, rfl, rfl, k _ _ _ _ _ r0 r1 r2 r3 r4⟩⟩⟩⟩⟩
  · cases e
theorem q_unp5 {α : Type} {R : α} {K : PySem.W.Frag} {te : TE} {tz : TS} {D : Ends} {o : Option U} {f : U → U → U → U → U → Option α} {B H : Hp} {σ : St} {i0 i1 i2 i3 i4 : Nat} (s : Same B H) (h : EvO te σ B H o) (e : (o.bind fun u => unpF5 u f) = some R) (k : ∀ x0 x1 x2 x3 x4 v0 v1 v2 v3 v4 B1 H1, Go B H B1 H1 → Rp B1 x0 v0 → Rp B1 x1 v1 → Rp B1 x2 v2 → Rp B1 x3 v3 → Rp B1 x4 v4 → f x0 x1 x2 x3 x4 = some R → tz D (((((σ.set i0 (some v0)).set i1 (some v1)).set i2 (some v2)).set i3 (some v3)).set i4 (some v4)) H1) : tSeq (tAsg te (gAnyT K 5 (gCons (gName i0) (gCons (gName i1) (gCons (gName i2) (gCons (gName i3) (gCons (gName i4) gNil))))))) tz D σ H := by
  obtain ⟨u, eu, e⟩ := bind_some e
  obtain ⟨⟨x0, x1, x2, x3, x4⟩, ex, e⟩ := bind_some e
  exact h u eu B H (At.refl s) _ fun v B2 H2 g2 r2 => g_unp5 g2.bh r2 ex fun v0 v1 v2 v3 v4 r0 r1 r2 r3 r4 => k x0 x1 x2 x3 x4 v0 v1 v2 v3 v4 B2 H2 g2 r0 r1 r2 r3 r4 e
theorem q_unpS5 {α : Type} {R : α × List U} {β : Bs} {K : PySem.W.Frag} {te : TE} {tz : TS} {D : Ends} {F : SM U} {f : U → U → U → U → U → SM α} {B H : Hp} {σ : St} {ps : List Addr} {us : List U} {i0 i1 i2 i3 i4 : Nat} (W : Wh β B H ps us) (h : EvS β.M ps σ B te F) (e : bindS F (fun u => unpS5 u f) us = some R) (k : ∀ x0 x1 x2 x3 x4 v0 v1 v2 v3 v4 B1 H1 us1, Wh β B1 H1 ps us1 → Same B B1 → Rp B1 x0 v0 → Rp B1 x1 v1 → Rp B1 x2 v2 → Rp B1 x3 v3 → Rp B1 x4 v4 → f x0 x1 x2 x3 x4 us1 = some R → tz D (((((σ.set i0 (some v0)).set i1 (some v1)).set i2 (some v2)).set i3 (some v3)).set i4 (some v4)) H1) : tSeq (tAsg te (gAnyT K 5 (gCons (gName i0) (gCons (gName i1) (gCons (gName i2) (gCons (gName i3) (gCons (gName i4) gNil))))))) tz D σ H := by
  obtain ⟨u, us1, eu, e⟩ := bindS_some e
  obtain ⟨⟨x0, x1, x2, x3, x4⟩, ex, e⟩ := bind_some e
  exact h _ _ _ eu B H W.at W.w _ fun v B2 H2 g2 r2 w2 => g_unp5 g2.bh r2 ex fun v0 v1 v2 v3 v4 r0 r1 r2 r3 r4 => k x0 x1 x2 x3 x4 v0 v1 v2 v3 v4 B2 H2 us1 (W.step g2 w2) g2.b r0 r1 r2 r3 r4 e
end Dn
set_option Elab.async false
set_option linter.all false
set_option maxRecDepth 100000
set_option maxHeartbeats 2000000
namespace Dn
open PySem PySem.Spec PyProof.Rows L2
variable [CTab]
/-! ### calls by keywords alone -/
section
variable {X : Cx} {CX : CXT} {k : Nat} {f : Addr} {fd : FuncData} {ps ks : List Str} {sp : Sp} {E : XK} {x : Str} {p pos : Pos} {kws : List Keyword} {tk : TA} {g : List Value → List Value → List Value} {gV : List V → List V → List V}
theorem pe_callN0 (F : FnOk X.prog X.w X.K X.mg X.base CX k f fd ps sp) (hr : Room k X.A) (hg : Gl X x) (hm : X.mg x = some (.ref f)) (hk : PySem.W.keepIn X.K (.ref f) = true) (hb : KBn X.K fd ps 0 ks g gV) (hx : Passes CX X E)
    (hkw : PK X kws tk) (hall : (backToKw pos (keywordEach kws X.env)).all (·.1.isSome) = true := by rfl) (hks : (backToKw pos (keywordEach kws X.env)).filterMap (·.1) = ks := by rfl)
    (hdb : (x == ("__debug__" : Str)) = false := by decide)
    (hpl : ((backTo pos (starEach [] X.env)).any (·.1) || (backToKw pos (keywordEach kws X.env)).any (·.1.isNone)) = false := by rfl) :
    PE X (.Call (.Name x p) [] kws pos) (tCallN 0 ks.length sp gV E tNil tk) := by
  refine ⟨fun pins s σ H Q I h => ?_⟩
  refine wpAny_Call_Name_kw (ld_glob I hg hm ?_ hdb)
  refine PySem.W.callWith_KW0 (h₀ := X.base) I.ok.mod.kin hk hall (thn (hkw.run pos pins s σ H _ I h) fun ws s2 ⟨zs, H2, I2, rz, l1, l2, q2⟩ => ⟨I2.kIn, ?_⟩) hpl
  rw [hks]
  exact run_fnN F hr hb hx I2 .nil rz l1 l2 q2
end
theorem Vals.reverse : ∀ {vs : List V} {us : List Value}, Vals vs us → Vals vs.reverse us.reverse
  | _, _, .nil => .nil
  | _, _, .cons h t => by
    rw [List.reverse_cons, List.reverse_cons]
    exact (Vals.reverse t).append (.cons h .nil)
theorem Rps.reverse {B : Hp} : ∀ {xs : List U} {vs : List V}, Rps B xs vs → Rps B xs.reverse vs.reverse
  | _, _, .nil => .nil
  | _, _, .cons h t => by
    rw [List.reverse_cons, List.reverse_cons]
    exact (Rps.reverse t).append (.cons h .nil)
/-- two keywords, written the other way round -/
theorem kb2r {K : PySem.W.Frag} {x qual : Str} {st : Stmt} {f : Addr} {fd : FuncData} {p1 p2 : Str} (F : Fun K x qual st f fd)
    (h : ∀ (kV doc pm : Value) (an : Option Addr) (cdv ct u v : Value), bindArgs (PySem.W.fnOf x qual (defArgs st) (defBody st) (defScope st) .none kV doc pm an cdv ct) ⟨[], [(p2, u), (p1, v)]⟩ = pure [(p1, v), (p2, u)]) :
    KBn K fd [p1, p2] 0 [p2, p1] (fun _ ws => ws.reverse) (fun _ zs => zs.reverse) := by
  obtain ⟨oc, od, kV, doc, pm, an, cdv, ct, osl, rfl, lk, hcd⟩ := F.ex
  refine ⟨fun s us ws X l1 l2 => ?_, fun r1 r2 => Vals.reverse r2⟩
  match us, ws, l1, l2 with
  | [], [u, v], _, _ => exact BindsTo.of_eq (h kV doc pm an cdv ct u v)
section
variable {σ : L2.St} {B H : Hp} {E : XK} {tk : TA}
theorem eo_callR {m : List U → Option U} {n : Nat} {ol : Option (List U)} (h : EvA tk σ B H ol) : EvO (tCallN 0 n (spU m) (fun _ zs => zs.reverse) E tNil tk) σ B H (callO (fun xs => if xs.length = n then m xs.reverse else none) ol) := fun z e B1 H1 g Q q => by
  obtain ⟨x, ex, e⟩ := bind_some e
  split at e
  · rename_i hn
    exact h x ex B1 H1 g _ fun vs B2 H2 g2 r => ⟨rfl, by rw [r.length]; exact hn, B2, _, z, g2.bh, r.reverse, e, fun v B3 H3 g3 r3 => q v B3 H3 (g2.trans g3) r3⟩
  · cases e
end
/-! ### sum of a list or a tuple of ints -/
theorem sum_tup {prog : Program} {w : World} {A : Around} {E : Value → Shared → Prop} {s : Shared} {l : Addr} {its : List Value} {ns : List Int} {Q : Value → Shared → Prop} (hh : A.handled = none) (hl : s.heap.IsTuple l its.toArray) (hi : PyProof.Rows.IntsAre its ns)
    (h : ∀ h' tk t', (∀ b o, s.heap.get? b = some o → h'.get? b = some o) → Q (.int ns.sum t') { s with heap := h', toks := tk }) : wpAny (model prog w) A (call (.builtin "sum") [.ref l]) Q E s := by
  obtain ⟨xs, e⟩ := hi.allInts.items
  have hn : numsOf (intItems xs).toList = ns := by rw [← e]; exact hi.numsOf
  rw [nums_intItems] at hn
  rw [e] at hl
  have hlt : l < s.heap.objs.size := by obtain ⟨_, e, _⟩ := hl; exact Heap.lt_size e
  refine call_sum_walkG (wpAny_pyIter_tuple hl ?_)
  refine ⟨_, _, _, _, _, _, numAt xs, rfl, Walks.tuple (A := A.in1) hh _ l (Nat.ne_of_lt hlt) (intItems xs), ⟨⟨_, Heap.get?_push_size _ rfl, rfl, rfl⟩, hl.at fun o e => Heap.get?_push_of_some _ e⟩, fun b hb => ?_, (fun _ _ => intItems_at), fun h' tk t' hk => ?_⟩
  · show b < (s.heap.push _).objs.size
    rw [Heap.size_push]
    rcases List.mem_cons.mp hb with rfl | hb
    · exact Nat.lt_succ_self _
    · rcases List.mem_cons.mp hb with rfl | hb
      · exact Nat.lt_succ_of_lt hlt
      · cases hb
  · have := h h' tk t' (fun b o e => hk b o (fun z => by simp at z; subst z; exact absurd (Heap.lt_size e) (Nat.lt_irrefl _)) (Heap.get?_push_of_some _ e))
    rw [← hn] at this
    rw [preSum_eq, List.take_of_length_le (by simp [intItems])]; exact this
theorem cr_sumT {X : Cx} (hc : X.calm = true) : CallR X (.builtin "sum") (fun vs H Q => ∃ (a : Addr) (ns : List Int), vs = [V.ref a] ∧ SqT X.K H a (ns.map V.int) ∧ Q (.int ns.sum) H) := by
  intro pins s σ H vs us Q I r h
  obtain ⟨a, ns, rfl, hs, q⟩ := h
  obtain ⟨its, rv, hl, _⟩ := I.tuple hs
  rw [Vals.ref1 r]
  exact sum_tup (I.ok.hd hc) hl rv.ints fun h' tk t' hk => ⟨.int _, H, I.kept hk, ⟨_, rfl⟩, q⟩
def rSumA (K : PySem.W.Frag) : List V → Hp → VK → Prop := fun vs H Q => rSum K vs H Q ∨ ∃ (a : Addr) (ns : List Int), vs = [V.ref a] ∧ SqT K H a (ns.map V.int) ∧ Q (.int ns.sum) H
theorem call_sumA {X : Cx} (hc : X.calm = true) : CallR X (.builtin "sum") (rSumA X.K) := CallR.or (cr_sum hc) (cr_sumT hc)
def sumA : U → Option U
  | .lst xs => (intsU xs).map fun bs => .int bs.sum
  | .tup xs => (intsU xs).map fun bs => .int bs.sum
  | .frl xs => (intsU xs).map fun bs => .int bs.sum
  | _ => none
theorem rc_sumA {K : PySem.W.Frag} : RC (rSumA K) (c1 sumA) := rc_one c1_one fun x z e v B H s rx Q q => by
  cases rx with
  | @lst a xs vs h r =>
    obtain ⟨bs, eb, e⟩ := map_some (show (intsU xs).map _ = some z from e)
    subst e
    have := r.intsOf eb; subst this
    exact .inl ⟨a, bs, rfl, SqL.of (s _ _ h), q _ B H (Go.refl s) (.int _)⟩
  | @frl a xs vs o h r =>
    obtain ⟨bs, eb, e⟩ := map_some (show (intsU xs).map _ = some z from e)
    subst e
    have := r.intsOf eb; subst this
    exact .inl ⟨a, bs, rfl, .inl (.inr ⟨o, s _ _ h⟩), q _ B H (Go.refl s) (.int _)⟩
  | @tup a xs vs h r =>
    obtain ⟨bs, eb, e⟩ := map_some (show (intsU xs).map _ = some z from e)
    subst e
    have := r.intsOf eb; subst this
    exact .inr ⟨a, bs, rfl, SqT.of (s _ _ h), q _ B H (Go.refl s) (.int _)⟩
  | _ => cases e
/-! ### tests that look at one's own object -/
def tLockT (t : TT) : TT := fun σ H Q => ∃ d u, H d = some u ∧ Mut (some u) ∧ ∀ od, t σ (upd H d (.frz od u)) fun b H' => H' d = some (.frz od u) ∧ Q b (upd H' d u)
theorem pt_lock {X : Cx} {e : Expr} {t : TT} (h : PT X e t) : PT X e (tLockT t) := by
  refine ⟨fun pins s σ H Q I hw => ?_⟩
  obtain ⟨d, u, hd, mu, hw⟩ := hw
  obtain ⟨od, I1⟩ := I.lock hd mu
  refine thn (h.run pins s σ _ _ I1 (hw od)) fun b s1 ⟨H1, I2, e2, q⟩ => ?_
  exact ⟨_, I2.unlock e2 (I.nofrz hd mu), q⟩
section
variable {M : Addr → Prop} {ps : List Addr} {σ : L2.St} {B H : Hp} {t : TT} {j : Nat} {p : Addr}
theorem ets_lockT {o : U → Option Bool} (hp : ps[j]? = some p) (h : ∀ u B' H', Same B B' → Rp B' u (.ref p) → EvT t σ B' H' (o u)) : EvTS M ps σ B (tLockT t) (lockT j o) := fun us z us' e B1 H1 g w Q q => by
  obtain ⟨u, eu, e⟩ := bind_some e
  split at e
  · rename_i ho
    obtain ⟨z1, ez, e⟩ := map_some e
    cases e
    obtain ⟨hb, ow⟩ := (w.at_ j p u hp eu).own ho
    obtain ⟨o1, e1, mu, hl⟩ := ow.lock
    refine ⟨p, o1, e1, mu, fun od => ?_⟩
    have r1 : Rp (upd B1 p (.frz od o1)) u (.ref p) := (hl od).resolve_right (fun z => z hb)
    have s1 : Same (upd B1 p (.frz od o1)) (upd H1 p (.frz od o1)) := fun b x hx => by
      by_cases hbp : b = p
      · subst hbp; rw [upd_same] at hx ⊢; exact hx
      · rw [upd_ne hbp] at hx ⊢; exact g.bh b x hx
    refine h u _ (upd H1 p (.frz od o1)) (g.b.trans (same_lock hb)) r1 z ez _ _ (At.refl s1) _ fun B2 H2 g2 => ?_
    have eB : B2 p = some (.frz od o1) := g2.b _ _ upd_same
    have eH : H2 p = some (.frz od o1) := g2.bh _ _ eB
    have gg : Go B1 H1 (eraseB B2 p) (upd H2 p o1) := by
      refine ⟨fun a x hx => ?_, fun a x hx => ?_, fun a x hx => ?_, fun a x hx => ?_⟩
      · by_cases ha : a = p
        · subst ha; rw [upd_same, ← e1]; exact hx
        · rw [upd_ne ha]; exact g2.h a x (by rw [upd_ne ha]; exact hx)
      · have ha : a ≠ p := ne_of_none hx hb
        rw [erase_ne ha]; exact g2.b a x (by rw [upd_ne ha]; exact hx)
      · by_cases ha : a = p
        · subst ha; rw [erase_same] at hx; cases hx
        · rw [erase_ne ha] at hx; rw [upd_ne ha]; exact g2.bh a x hx
      · by_cases ha : a = p
        · subst ha; rw [erase_same] at hx; cases hx
        · rw [erase_ne ha] at hx
          rcases g2.fr a x hx with z | z
          · rw [upd_ne ha] at z; exact .inl z
          · rw [upd_ne ha] at z; exact .inr z
    exact ⟨eH, q _ _ (.of gg) (w.go gg)⟩
  · cases e
end
end Dn
set_option Elab.async false
set_option linter.all false
set_option maxRecDepth 100000
set_option maxHeartbeats 2000000
namespace Dn
open PySem PySem.Spec PyProof.Rows L2
variable [CTab]
/-! ### the rules with the module's part named -/
section
variable {X : Cx} {K : PySem.W.Frag} {a b e o : Expr} {ta tb te to : TE} {pos : Pos}
theorem ix_anyK (hK : X.K = K) (hu : X.A.units + 64 < cLine) : IxR X (rIxA K) := hK ▸ ix_any hu
theorem call_lenK (hK : X.K = K) : CallR X (.builtin "len") (rLenA K) := hK ▸ call_lenA
theorem cr_allK (hK : X.K = K) (hc : X.calm = true) : CallR X (.builtin "all") (rAll K) := hK ▸ cr_all hc
theorem cr_anyK (hK : X.K = K) (hc : X.calm = true) : CallR X (.builtin "any") (rAny K) := hK ▸ cr_any hc
theorem call_sumK (hK : X.K = K) (hc : X.calm = true) : CallR X (.builtin "sum") (rSumA K) := hK ▸ call_sumA hc
def rListB (K : PySem.W.Frag) : List V → Hp → VK → Prop := fun xs H Q => (∃ p ys, xs = [V.ref p] ∧ (SqL K H p ys ∨ SqT K H p ys) ∧ ∀ l, H l = none → Q (.ref l) (upd H l (.lst ys))) ∨
    ∃ (a : Addr) (kvs : List (Key × V)), xs = [V.ref a] ∧ Rd H a (.dK kvs) ∧ ∀ p, H p = none → Q (.ref p) (upd H p (.lst (kvs.map fun kv => kV kv.1)))
theorem call_listK (hK : X.K = K) (hc : X.calm = true) : CallR X (.type "list") (rListB K) := hK ▸ call_listB hc
theorem rc_listK : RC (rListB K) (c1 listB) := rc_listB
theorem call_tupleK (hK : X.K = K) : CallR X (.type "tuple") (rTupleA K) := hK ▸ call_tuple_of
theorem op_addK (hK : X.K = K) : OpR X (binaryOp .Add) (rAddU K) := hK ▸ op_addU
theorem sl_anyK (hK : X.K = K) : SlR X (rSlU K) := hK ▸ sl_any
theorem call_isiKK (hK : X.K = K) : CallR X (.builtin "isinstance") (rIsi K) := hK ▸ call_isi
theorem pi_anyK {tg : Expr} (hK : X.K = K) (h : PE X e te) : PI X tg e (iAny K te) := hK ▸ pi_any h
theorem pi_zipK {p pos tpos : Pos} {elts : List Expr} {kk : Nat} (hK : X.K = K) (hg : Gl X "zip") (hm : X.mg "zip" = none) (h1 : PE X a ta) (h2 : PE X b tb)
    (he1 : starEach [a, b] X.env = (false, eval a X.env) :: starEach [b] X.env := by rfl) (he2 : starEach [b] X.env = (false, eval b X.env) :: starEach [] X.env := by rfl) (hpl : (backTo pos (starEach [b] X.env)).any (·.1) = false := by rfl) :
    PI X (.Tuple elts kk tpos) (.Call (.Name "zip" p) [a, b] [] pos) (iZipU K (tCons ta (tCons tb tNil))) := hK ▸ pi_zipU hg hm h1 h2 he1 he2 hpl
theorem pe_fldK {f : Str} (hK : X.K = K) (he : PE X e te) (hb : attributeBase e f X.env (eval e X.env) = eval e X.env := by rfl) : PE X (.Attribute e f pos) (tFld K te f) := hK ▸ pe_fld he hb
theorem pe_joinK {apos pos : Pos} (hK : X.K = K) (ho : PE X o to) (he : PE X e te) (hs : starEach [e] X.env = [(false, eval e X.env)] := by rfl) (hbase : attributeBase o "join" X.env (eval o X.env) = eval o X.env := by rfl) (hline : (apos.endLine == pos.line) = true := by rfl) :
    PE X (.Call (.Attribute o "join" apos) [e] [] pos) (tM1 (fun x xs H Q => ∃ a p, ∃ ys : List Str, x = .str a ∧ xs = [.ref p] ∧ (SqL K H p (ys.map V.str) ∨ SqT K H p (ys.map V.str)) ∧
      (ys.map (·.length)).sum + ys.length * a.length ≤ 16777216 ∧ Q (.str (Txt.join a ys)) H) to te) := hK ▸ pe_join ho he hs hbase hline
section
variable {es : List Expr} {t : TA} {apos cpos : Pos}
theorem pe_appK (hK : X.K = K) (ho : PE X o to) (ha : PA X (e :: es) t) (hbase : attributeBase o "append" X.env (eval o X.env) = eval o X.env := by rfl)
    (hfew : ((backTo cpos (starEach (e :: es) X.env)).all (fun x => !x.1) && (backToKw cpos (keywordEach [] X.env)).all (fun x => x.1.isSome)
      && decide ((e :: es).length + ([] : List Keyword).length + (if ([] : List Keyword).isEmpty then 0 else 1) < 30)) = true := by rfl)
    (hline : (apos.endLine == cpos.line) = true := by rfl) (hs : starEach (e :: es) X.env = (false, eval e X.env) :: starEach es X.env := by rfl) (hplain : (backTo cpos (starEach es X.env)).any (·.1) = false := by rfl) :
    PE X (.Call (.Attribute o "append" apos) (e :: es) [] cpos) (tBM K "list" rAppend to t) := hK ▸ pe_bm PySem.F.plainAttrs_list PySem.F.slot_list_append PySem.F.type_list_append mt_append ho ha hbase hfew hline hs hplain
theorem pe_popK (hK : X.K = K) (ho : PE X o to) (ha : PA X (e :: es) t) (hbase : attributeBase o "pop" X.env (eval o X.env) = eval o X.env := by rfl)
    (hfew : ((backTo cpos (starEach (e :: es) X.env)).all (fun x => !x.1) && (backToKw cpos (keywordEach [] X.env)).all (fun x => x.1.isSome)
      && decide ((e :: es).length + ([] : List Keyword).length + (if ([] : List Keyword).isEmpty then 0 else 1) < 30)) = true := by rfl)
    (hline : (apos.endLine == cpos.line) = true := by rfl) (hs : starEach (e :: es) X.env = (false, eval e X.env) :: starEach es X.env := by rfl) (hplain : (backTo cpos (starEach es X.env)).any (·.1) = false := by rfl) :
    PE X (.Call (.Attribute o "pop" apos) (e :: es) [] cpos) (tBM K "list" rPopAt to t) := hK ▸ pe_bm PySem.F.plainAttrs_list PySem.F.slot_list_pop PySem.F.type_list_pop mt_popAt ho ha hbase hfew hline hs hplain
theorem pe_indexK (hK : X.K = K) (ho : PE X o to) (ha : PA X (e :: es) t) (hbase : attributeBase o "index" X.env (eval o X.env) = eval o X.env := by rfl)
    (hfew : ((backTo cpos (starEach (e :: es) X.env)).all (fun x => !x.1) && (backToKw cpos (keywordEach [] X.env)).all (fun x => x.1.isSome)
      && decide ((e :: es).length + ([] : List Keyword).length + (if ([] : List Keyword).isEmpty then 0 else 1) < 30)) = true := by rfl)
    (hline : (apos.endLine == cpos.line) = true := by rfl) (hs : starEach (e :: es) X.env = (false, eval e X.env) :: starEach es X.env := by rfl) (hplain : (backTo cpos (starEach es X.env)).any (·.1) = false := by rfl) :
    PE X (.Call (.Attribute o "index" apos) (e :: es) [] cpos) (tBM K "list" (rIndex K) to t) := hK ▸ pe_bm PySem.F.plainAttrs_list PySem.F.slot_list_index PySem.F.type_list_index mt_index ho ha hbase hfew hline hs hplain
end
theorem pg_tupK {es : List Expr} {k : Nat} {t : TGs} {n : Nat} (hK : X.K = K) (hc : X.calm = true) (h : PGs X es t)
    (hn : (assignEach es X.env).length = n := by rfl) (hst : (assignEach es X.env).findIdx? (·.1) = none := by rfl) : PG X (.Tuple es k pos) (gTup K n t) := hK ▸ pg_tup hc h hn hst
theorem pg_anyK {es : List Expr} {k : Nat} {t : TGs} {n : Nat} (hK : X.K = K) (hc : X.calm = true) (h : PGs X es t)
    (hn : (assignEach es X.env).length = n := by rfl) (hst : (assignEach es X.env).findIdx? (·.1) = none := by rfl) : PG X (.Tuple es k pos) (gAnyT K n t) := hK ▸ pg_any hc h hn hst
end
end Dn
set_option Elab.async false
set_option linter.all false
set_option maxRecDepth 100000
set_option maxHeartbeats 2000000
namespace Dn
open PySem L2
variable [CTab]
/-- while: R by what is left of the turns -/
theorem q_whileS {α : Type} {RR : α × List U} {β : Bs} {c : TT} {tu tz : TS} {D : Ends} {σ : L2.St} {H : Hp} {n : Nat} (R : Nat → L2.St → Hp → Prop) (h0 : R n σ H)
    (hs : ∀ m σ' H', R m σ' H' → ∃ k B ps us, ∃ (cF : SM Bool) (m1 m2 : SM α), m = k + 1 ∧ Wh β B H' ps us ∧ EvTS β.M ps σ' B c cF ∧ ifS cF m1 m2 us = some RR ∧
      (∀ B1 H1 us1, Wh β B1 H1 ps us1 → Same B B1 → m1 us1 = some RR → tu { D with nx := R k, ct := R k, bk := tz D } σ' H1) ∧ (∀ B1 H1 us1, Wh β B1 H1 ps us1 → Same B B1 → m2 us1 = some RR → tz D σ' H1)) : tSeq (tWhile c tu) tz D σ H := by
  refine ⟨R, ⟨n, h0⟩, fun m σ' H' r => ?_⟩
  obtain ⟨k, B, ps, us, cF, m1, m2, rfl, W, ht, e, h1, h2⟩ := hs m σ' H' r
  obtain ⟨b, us1, eb, e⟩ := bindS_some e
  refine ht _ _ _ eb B H' W.at W.w _ fun B2 H2 g2 w2 => ?_
  cases b with
  | true => exact ⟨R k, fun σ2 H3 r2 => ⟨k, Nat.lt_succ_self k, r2⟩, h1 B2 H2 us1 (W.step g2 w2) g2.b e⟩
  | false => exact h2 B2 H2 us1 (W.step g2 w2) g2.b e
end Dn
set_option Elab.async false
set_option linter.all false
set_option maxRecDepth 100000
set_option maxHeartbeats 2000000
namespace Dn
open PySem L2 PyProof.Rows HT
/-! ### t[::c] -/
section
variable {prog : Program} {w : World} {A : Around} {E : Value → Shared → Prop} {s : Shared}
theorem places_back (n : Nat) : Builtin.Slice.slicePlaces ((n : Int) - 1) (-1) (-1) = n := by
  unfold Builtin.Slice.slicePlaces
  rw [if_neg (by decide)]
  by_cases h : n = 0
  · subst h; rfl
  · rw [if_pos (by omega)]
    have e : (((n : Int) - 1 - -1 - 1) / (- -1)) = (n : Int) - 1 := by
      rw [show (- -1 : Int) = 1 by decide, Int.ediv_one]; omega
    rw [e]; omega
theorem applied_back {sl : Addr} {vl vu vs : Value} {n : Nat} {Q : Int × Int × Nat → Shared → Prop} (hs : s.heap.IsSliceOf sl vl vu vs) (pl : IsPart vl none) (pu : IsPart vu none) (ps : IsPart vs (some (-1)))
    (h : Q ((n : Int) - 1, -1, n) s) : wpAny (model prog w) A (Builtin.Slice.sliceApplied (.ref sl) (pure (n : Int))) Q E s := by
  obtain ⟨os, g1, _, g2⟩ := id hs
  unfold Builtin.Slice.sliceApplied Builtin.Slice.sliceFields
  refine wpAny_bind (wpAny_bind (wpAny_field g1 g2 (x := vl) rfl (wpAny_bind (wpAny_field g1 g2 (x := vu) rfl (wpAny_bind (wpAny_field g1 g2 (x := vs) rfl (wpAny_pure ?_)))))))
  refine wpAny_bind (slicePart_ ps ?_)
  show wpAny _ _ (if ((-1 : Int) == 0) = true then _ else _) _ _ s
  rw [if_neg (by decide)]
  refine wpAny_bind (slicePart_ pl (wpAny_bind (slicePart_ pu (wpAny_bind (wpAny_pure ?_)))))
  show wpAny _ _ (pure ((n : Int) - 1, (-1 : Int), Builtin.Slice.slicePlaces ((n : Int) - 1) (-1) (-1))) _ _ s
  rw [places_back]
  exact wpAny_pure h
theorem fm_congr {α β : Type} {f g : α → Option β} : ∀ {l : List α}, (∀ x ∈ l, f x = g x) → l.filterMap f = l.filterMap g
  | [], _ => rfl
  | x :: l, h => by
    rw [List.filterMap_cons, List.filterMap_cons, h x (List.mem_cons_self ..), fm_congr fun y hy => h y (List.mem_cons_of_mem _ hy)]
theorem pick_back (xs : List Value) : ((List.range xs.length).filterMap fun (k : Nat) => xs.toArray[(((xs.length : Nat) : Int) - 1 + (k : Int) * -1).toNat]?) = xs.reverse := by
  have key : ∀ k ∈ List.range xs.length, xs.toArray[(((xs.length : Nat) : Int) - 1 + (k : Int) * -1).toNat]? = xs.reverse[k]? := fun k hk => by
    have hk := List.mem_range.mp hk
    have e : (((xs.length : Nat) : Int) - 1 + (k : Int) * -1).toNat = xs.length - 1 - k := by omega
    rw [e, List.getElem?_toArray, List.getElem?_reverse hk]
  rw [fm_congr key]
  have key2 : ∀ ys : List Value, (List.range ys.length).filterMap (fun k => ys[k]?) = ys := fun ys => by
    induction ys with
    | nil => rfl
    | cons y ys ih =>
      rw [List.length_cons, List.range_succ_eq_map, List.filterMap_cons]
      simp only [List.getElem?_cons_zero, List.filterMap_map, Function.comp_def, List.getElem?_cons_succ]
      rw [ih]
  have := key2 xs.reverse
  rwa [List.length_reverse] at this
theorem item_tuple_back {t sl : Addr} {items : List Value} {vl vu vs : Value} {Q : Value → Shared → Prop} (ht : IsTup s.heap t items.toArray) (hs : s.heap.IsSliceOf sl vl vu vs) (pl : IsPart vl none) (pu : IsPart vu none) (ps : IsPart vs (some (-1)))
    (h : Q (.ref s.heap.objs.size) { s with heap := s.heap.push { cls := .type "tuple", data := .seq items.reverse.toArray } }) (hz : items.length ≤ sizeLine) : wpAny (model prog w) A (getItem (.ref t) (.ref sl)) Q E s := by
  obtain ⟨os, g1, g2, g3⟩ := id hs
  have ts : s.TypeIs (.ref sl) "slice" := ⟨os, g1, g2⟩
  have okz : sizeOk (.seq items.reverse.toArray) := by
    show items.reverse.toArray.size ≤ sizeLine
    rw [List.size_toArray, List.length_reverse]; exact hz
  unfold getItem
  try with_reducible refine wpAny_holding ?_
  first | refine wpAny_bind (wpAny_pure ?_) | skip
  refine wpAny_bind (wpAny_sequenceKey ht.typeIs (by decide) ?_)
  refine wpAny_bind (wpAny_callSpecial?_slot (name := Str.ofString "__getitem__") ht.typeIs PyProof.Rows.slot_tuple_getitem (wpAny_call_entry PyProof.Rows.slot_tuple_getitem ht.typeIs entry_tuple_getitem ?_ (args_tuple_getitem _ _)))
  show wpAny _ _ (Builtin.Tuple.tupleItemsOf (.ref t) >>= _) _ _ s
  refine wpAny_bind (tupleItemsOf_ ht (wpAny_bind (wpAny_typeOf ts ?_)))
  rw [if_pos (by decide)]
  refine wpAny_bind (applied_back hs pl pu ps ?_)
  have no : ¬ ((((items.toArray.size : Nat) : Int) - 1 == 0 && (-1 : Int) == 1 && items.toArray.size == items.toArray.size) = true) := by
    intro z
    rw [Bool.and_eq_true, Bool.and_eq_true] at z
    exact absurd z.1.2 (by decide)
  show wpAny _ _ (if (((items.toArray.size : Nat) : Int) - 1 == 0 && (-1 : Int) == 1 && items.toArray.size == items.toArray.size) = true then _ else _) _ _ s
  rw [if_neg no]
  have e : ((List.range items.toArray.size).filterMap fun (k : Nat) => items.toArray[(((items.toArray.size : Nat) : Int) - 1 + (k : Int) * -1).toNat]?).toArray = items.reverse.toArray := by
    rw [List.size_toArray, pick_back]
  rw [e]
  first
    | exact wpAny_bind (m := Builtin.Tuple.tupleExact _) (wpAny_newObj_type (wpAny_pure ⟨_, rfl, wpAny_pure h⟩) okz)
    | exact wpAny_bind (m := Builtin.Tuple.tupleExact _) (wpAny_newObj_type (wpAny_bind (wpAny_pure (wpAny_pure ⟨_, rfl, wpAny_pure h⟩))) okz)
    | exact wpAny_bind (wpAny_bind (m := Builtin.Tuple.tupleExact _) (wpAny_newObj_type (wpAny_pure (wpAny_pure ⟨_, rfl, wpAny_pure h⟩)) okz))
    | exact wpAny_bind (wpAny_bind (m := Builtin.Tuple.tupleExact _) (wpAny_newObj_type (wpAny_pure ⟨_, rfl, wpAny_pure h⟩) okz))
end
theorem pick_one (its : List Value) : slicePick its.toArray none none (some 1) = its.toArray := by
  have e : slicePick its.toArray none none (some 1) = slicePick its.toArray none none none := rfl
  rw [e, slicePick_cut]
  simp [HT.sIx]
def rStep (K : PySem.W.Frag) : V → Int → Hp → VK → Prop := fun x c H Q => ∃ a xs, x = .ref a ∧ ((c = 1 ∧ SqL K H a xs ∧ ∀ p, H p = none → Q (.ref p) (upd H p (.lst xs))) ∨ (c = -1 ∧ SqL K H a xs ∧ ∀ p, H p = none → Q (.ref p) (upd H p (.lst xs.reverse))) ∨
  (c = -1 ∧ SqT K H a xs ∧ ∀ p, H p = none → Q (.ref p) (upd H p (.tup xs.reverse))))
def tStep (K : PySem.W.Frag) (te ts : TE) : TE := fun σ H Q => te σ H fun x H1 => tPart ts σ H1 fun o H2 => ∃ c, o = some c ∧ rStep K x c H2 Q
section
variable {X : Cx}
theorem pe_step {e st : Expr} {te ts : TE} {p3 pos : Pos} (he : PE X e te) (hst : PE X st ts) : PE X (.Subscript e (.Slice none none (some st) p3) pos) (tStep X.K te ts) := by
  refine ⟨fun pins s σ H Q I h => ?_⟩
  refine Subscript_ (thn (he.run pins s σ H _ I h) fun v s1 ⟨x, H1, I1, r1, q1⟩ => ?_)
  refine wpAny_Slice (thn (po_none.run pins s1 σ H1 (fun o H2 => o = none ∧ H2 = H1) I1 ⟨rfl, rfl⟩) fun vl s2 ⟨l, H2, I2, pl, el, e2⟩ => ?_)
  subst el e2
  refine thn (po_none.run pins s2 σ H2 (fun o H3 => o = none ∧ H3 = H2) I2 ⟨rfl, rfl⟩) fun vu s3 ⟨u, H3, I3, pu, eu, e3⟩ => ?_
  subst eu e3
  refine thn ((po_some hst).run pins s3 σ H3 (fun o H4 => ∃ c, o = some c ∧ rStep X.K x c H4 Q) I3 q1) fun vs s4 ⟨o, H4, I4, ps, c, eo, a, xs, ex, q⟩ => ?_
  subst eo ex
  cases r1
  have I5 : Inv X pins σ H4 { s4 with heap := s4.heap.push { cls := .type "slice", data := .fields #[vl, vu, vs] } } := I4.kept (t' := s4.toks) fun b ob q => Heap.get?_push_of_some _ q
  show wpAny (model X.prog X.w) X.A (subscriptTail e (.Slice none none (some st) p3) (.ref a) (.ref s4.heap.objs.size)) (EP X pins σ Q) X.xe { s4 with heap := s4.heap.push { cls := .type "slice", data := .fields #[vl, vu, vs] } }
  rcases q with ⟨rfl, hx, q⟩ | ⟨rfl, hx, q⟩ | ⟨rfl, hx, q⟩
  · obtain ⟨its, r, ht, hz⟩ := I5.list hx
    have hlen := r.length
    refine tail_any (ops := [.ref a, .ref s4.heap.objs.size]) ht.isList.typeIs (PySem.slot_list_getitem.lookup) ?_ (by with_unfolding_all rfl)
    refine wpAny_getItem_list_slice ht.isList (Heap.IsSliceOf.new _ vl vu vs) pl pu ps (by decide) ?_ (by rw [List.size_toArray]; omega)
    rw [pick_one]
    refine ⟨.ref _, _, I5.laid (t' := s4.toks) (o := .lst xs) (fun b ob q => Heap.get?_push_of_some _ q) (Nat.le_refl _) ?_, rfl, q _ (I5.hok.fresh (Nat.le_refl _))⟩
    exact ⟨hz, _, 0, r, Heap.get?_push_size _ rfl⟩
  · obtain ⟨its, r, ht, hz⟩ := I5.list hx
    have hlen := r.length
    refine tail_any (ops := [.ref a, .ref s4.heap.objs.size]) ht.isList.typeIs (PySem.slot_list_getitem.lookup) ?_ (by with_unfolding_all rfl)
    refine wpAny_getItem_list_slice ht.isList (Heap.IsSliceOf.new _ vl vu vs) pl pu ps (by decide) ?_ (by rw [List.size_toArray]; omega)
    rw [PySem.W.krv_pick]
    refine ⟨.ref _, _, I5.laid (t' := s4.toks) (o := .lst xs.reverse) (fun b ob q => Heap.get?_push_of_some _ q) (Nat.le_refl _) ?_, rfl, q _ (I5.hok.fresh (Nat.le_refl _))⟩
    exact ⟨by rw [List.length_reverse]; exact hz, _, 0, r.reverse, Heap.get?_push_size _ rfl⟩
  · obtain ⟨its, r, ht, hz⟩ := I5.tuple hx
    have hlen := r.length
    refine tail_any (ops := [.ref a, .ref s4.heap.objs.size]) ht.typeIs (PyProof.Rows.slot_tuple_getitem.lookup) ?_ (by with_unfolding_all rfl)
    refine item_tuple_back ht (Heap.IsSliceOf.new _ vl vu vs) pl pu ps ?_ (by omega)
    refine ⟨.ref _, _, I5.laid (t' := s4.toks) (o := .tup xs.reverse) (fun b ob q => Heap.get?_push_of_some _ q) (Nat.le_refl _) ?_, rfl, q _ (I5.hok.fresh (Nat.le_refl _))⟩
    exact ⟨by rw [List.length_reverse]; exact hz, _, r.reverse, IsTup.new _ _⟩
theorem pe_stepK {K : PySem.W.Frag} {e st : Expr} {te ts : TE} {p3 pos : Pos} (hK : X.K = K) (he : PE X e te) (hst : PE X st ts) : PE X (.Subscript e (.Slice none none (some st) p3) pos) (tStep K te ts) := hK ▸ pe_step he hst
end
variable [CTab]
def stepV : U → U → Option U
  | .lst xs, .int c => if c = 1 then some (.lst xs) else if c = -1 then some (.lst xs.reverse) else none
  | .frl xs, .int c => if c = 1 then some (.lst xs) else if c = -1 then some (.lst xs.reverse) else none
  | .tup xs, .int c => if c = -1 then some (.tup xs.reverse) else none
  | _, _ => none
theorem Rps.rev {B : Hp} : ∀ {xs : List U} {vs : List V}, Rps B xs vs → Rps B xs.reverse vs.reverse
  | _, _, .nil => .nil
  | _, _, .cons h t => by
    rw [List.reverse_cons, List.reverse_cons]
    exact (Rps.rev t).append (.one h)
theorem rp_step {K : PySem.W.Frag} {B H : Hp} {x z : U} {v : V} {c : Int} {Q : VK} (e : stepV x (.int c) = some z) (s : Same B H) (r : Rp B x v) (q : ∀ v2 B2 H2, Go B H B2 H2 → Rp B2 z v2 → Q v2 H2) : rStep K v c H Q := by
  cases r with
  | @lst a xs vs h r =>
    have e : (if c = 1 then some (U.lst xs) else if c = -1 then some (.lst xs.reverse) else none) = some z := e
    refine ⟨a, vs, rfl, ?_⟩
    split at e
    · rename_i hc
      cases e
      exact .inl ⟨hc, SqL.of (s _ _ h), fun p hp => q _ _ _ (Go.new s hp) (.lst upd_same (r.new s hp))⟩
    · split at e
      · rename_i hc
        cases e
        exact .inr (.inl ⟨hc, SqL.of (s _ _ h), fun p hp => q _ _ _ (Go.new s hp) (.lst upd_same (r.rev.new s hp))⟩)
      · cases e
  | @frl a xs vs o h r =>
    have e : (if c = 1 then some (U.lst xs) else if c = -1 then some (.lst xs.reverse) else none) = some z := e
    refine ⟨a, vs, rfl, ?_⟩
    split at e
    · rename_i hc
      cases e
      exact .inl ⟨hc, .inl (.inr ⟨o, s _ _ h⟩), fun p hp => q _ _ _ (Go.new s hp) (.lst upd_same (r.new s hp))⟩
    · split at e
      · rename_i hc
        cases e
        exact .inr (.inl ⟨hc, .inl (.inr ⟨o, s _ _ h⟩), fun p hp => q _ _ _ (Go.new s hp) (.lst upd_same (r.rev.new s hp))⟩)
      · cases e
  | @tup a xs vs h r =>
    have e : (if c = -1 then some (U.tup xs.reverse) else none) = some z := e
    refine ⟨a, vs, rfl, ?_⟩
    split at e
    · rename_i hc
      cases e
      exact .inr (.inr ⟨hc, SqT.of (s _ _ h), fun p hp => q _ _ _ (Go.new s hp) (.tup upd_same (r.rev.new s hp))⟩)
    · cases e
  | _ => cases e
section
variable {σ : L2.St} {B H : Hp} {te ts : TE} {oa ob : Option U} {K : PySem.W.Frag} {M : Addr → Prop} {ps : List Addr} {F G : SM U}
theorem step_int {x y z : U} (e : stepV x y = some z) : ∃ c, y = .int c := by
  cases x <;> cases y <;> first | exact ⟨_, rfl⟩ | cases e
theorem eo_step (ha : EvO te σ B H oa) (hb : EvO ts σ B H ob) : EvO (tStep K te ts) σ B H (op2 stepV oa ob) := fun z e B1 H1 g Q q => by
  obtain ⟨x, ex, e⟩ := bind_some e
  obtain ⟨y, ey, e⟩ := bind_some e
  obtain ⟨c, rfl⟩ := step_int e
  refine ha x ex B1 H1 g _ fun v B2 H2 g2 r2 => hb _ ey B2 H2 (g.trans g2) _ fun w B3 H3 g3 r3 => ?_
  cases r3
  exact ⟨c, rfl, c, rfl, rp_step e g3.bh (r2.up g3) fun v2 B4 H4 g4 r4 => q v2 B4 H4 ((g2.trans g3).trans g4) r4⟩
theorem es_step (ha : EvS M ps σ B te F) (hb : EvS M ps σ B ts G) : EvS M ps σ B (tStep K te ts) (opS stepV F G) := fun us z us' e B1 H1 g w Q q => by
  obtain ⟨x, us1, ex, e⟩ := bindS_some e
  obtain ⟨y, us2, ey, e⟩ := bindS_some e
  obtain ⟨ee, rfl⟩ := pureS_some e; clear e
  obtain ⟨c, rfl⟩ := step_int ee
  refine ha _ _ _ ex B1 H1 g w _ fun v B2 H2 g2 r2 w2 => hb _ _ _ ey B2 H2 (g.trs g2) w2 _ fun v' B3 H3 g3 r3 w3 => ?_
  cases r3
  exact ⟨c, rfl, c, rfl, rp_step ee g3.bh (r2.upA g3.at) fun v2 B4 H4 g4 r4 => q v2 B4 H4 ((g2.trans g3).trans (.of g4)) r4 (w3.go g4)⟩
end
/-! ### what keeps a list of one's own a list -/
def LkA {α : Type} (j : Nat) (F : SM α) : Prop := ∀ us y us', F us = some (y, us') → ∀ xs, us'[j]? = some (.frl xs) → ∃ ys, us[j]? = some (.frl ys)
section
variable {j k : Nat}
theorem lk_bind {α β : Type} {F : SM α} {G : α → SM β} (h : LkA j F) (h2 : ∀ x, LkA j (G x)) : LkA j (bindS F G) := fun us y us' e xs ex => by
  obtain ⟨x, us1, e1, e2⟩ := bindS_some e
  obtain ⟨ys, ey⟩ := h2 x _ _ _ e2 xs ex
  exact h _ _ _ e1 ys ey
theorem lk_pure {α : Type} {o : Option α} : LkA j (pureS o) := fun us y us' e xs ex => by
  obtain ⟨_, rfl⟩ := pureS_some e
  exact ⟨xs, ex⟩
theorem lk_lockO {o : U → Option U} : LkA j (lockO k o) := fun us y us' e xs ex => by
  obtain ⟨u, _, e⟩ := bind_some e
  split at e
  · obtain ⟨z, _, e⟩ := bind_some e
    split at e
    · cases e; exact ⟨xs, ex⟩
    · cases e
  · cases e
theorem lk_lockT {o : U → Option Bool} : LkA j (lockT k o) := fun us y us' e xs ex => by
  obtain ⟨u, _, e⟩ := bind_some e
  split at e
  · obtain ⟨z, _, e⟩ := map_some e
    cases e; exact ⟨xs, ex⟩
  · cases e
theorem lk_set {us : List U} {u : U} {xs : List U} (h : k ≠ j) (ex : (us.set k u)[j]? = some (.frl xs)) : ∃ ys, us[j]? = some (.frl ys) := by
  rw [List.getElem?_set_ne h] at ex; exact ⟨xs, ex⟩
theorem lk_callM {m : U → List U → Option (U × U)} {xs : List U} (h : k ≠ j) : LkA j (callM k m xs) := fun us y us' e xs ex => by
  obtain ⟨u, _, e⟩ := bind_some e
  split at e
  · obtain ⟨z, _, e⟩ := map_some e
    cases e; exact lk_set h ex
  · cases e
theorem lk_pop {y : U} : LkA j (popS k y) := fun us z us' e xs ex => by
  unfold popS at e
  split at e
  · rename_i ys i eu
    split at e
    · obtain ⟨n, _, e⟩ := bind_some e
      obtain ⟨q, _, e⟩ := map_some e
      cases e
      by_cases h : k = j
      · subst h; exact ⟨_, eu⟩
      · exact lk_set h ex
    · cases e
  · cases e
theorem lk_app {y : U} : LkA j (appS k y) := fun us z us' e xs ex => by
  unfold appS at e
  split at e
  · rename_i ys eu
    split at e
    · cases e
      by_cases h : k = j
      · subst h; exact ⟨_, eu⟩
      · exact lk_set h ex
    · cases e
  · cases e
theorem lk_lockS {F : U → SM U} (h : ∀ u, LkA j (F u)) : LkA j (lockS k F) := fun us z us' e xs ex => by
  obtain ⟨u, eu, e⟩ := bind_some e
  split at e
  · obtain ⟨⟨r1, r2⟩, er, e⟩ := bind_some e
    split at e
    · cases e
      by_cases hk : k = j
      · subst hk
        have hl : k < r2.length := by
          rcases Nat.lt_or_ge k r2.length with q | q
          · exact q
          · rw [List.getElem?_eq_none (by simpa using q)] at ex; cases ex
        rw [List.getElem?_set_self hl] at ex
        cases ex
        exact ⟨_, eu⟩
      · rw [List.getElem?_set_ne hk] at ex
        obtain ⟨ys, ey⟩ := h u _ _ _ er xs ex
        rw [List.getElem?_set_ne hk] at ey
        exact ⟨ys, ey⟩
    · cases e
  · cases e
theorem lk_take : LkA j (takeS k) := fun us z us' e xs ex => by
  unfold takeS at e
  split at e
  · rename_i ys eu
    cases e
    by_cases h : k = j
    · subst h; exact ⟨_, eu⟩
    · exact lk_set h ex
  · cases e
end
end Dn
set_option Elab.async false
set_option linter.all false
set_option maxRecDepth 100000
set_option maxHeartbeats 2000000
namespace Dn
open PySem L2
variable [CTab]
section
variable {α : Type} {R : α × List U} {β : Bs} {σ : L2.St} {B H : Hp} {ps : List Addr} {us : List U} {K : PySem.W.Frag} {ta tb : TE} {tz : TS} {D : Ends} {F G : SM U} {i j : Nat}
/-- a, b = .. by a tuple that nobody keeps -/
theorem two_cells {v w : V} {ps2 : List Addr} {us1 : List U} {Q : L2.St → Hp → Prop} (W : Wh β B H ps2 us1) (k : ∀ H1, Wh β B H1 ps2 us1 → Q ((σ.set i (some v)).set j (some w)) H1) :
    [v, w].length ≤ sizeLine ∧ ∀ p, H p = none → gTup K 2 (gCons (gName i) (gCons (gName j) gNil)) (.ref p) σ (upd H p (.tup [v, w])) Q :=
  ⟨by show 2 ≤ sizeLine; decide, fun p hp => ⟨p, _, rfl, SqT.of upd_same, rfl, _, _, rfl, _, _, rfl, rfl, k _ (W.go (Go.own W.s hp))⟩⟩
theorem q_tupNN {f : SM α} (W : Wh β B H ps us) (ha : EvN β.M ps σ B ta F) (hb : EvN β.M ps σ B tb G) (e : bindS F (fun x => bindS G fun y => addS x (addS y f)) us = some R)
    (k : ∀ p q B1 H1 us1, Wh β B1 H1 (ps ++ [p, q]) us1 → Same B B1 → f us1 = some R → tz D ((σ.set i (some (.ref p))).set j (some (.ref q))) H1) : tSeq (tAsg (tTup (tCons ta (tCons tb tNil))) (gTup K 2 (gCons (gName i) (gCons (gName j) gNil)))) tz D σ H := by
  obtain ⟨x, us1, ex, e⟩ := bindS_some e
  obtain ⟨y, us2, ey, e⟩ := bindS_some e
  refine ha _ _ _ ex B H W.at W.w _ fun p B2 H2 g2 n2 b2 o2 w2 => hb _ _ _ ey B2 H2 (W.at.trs g2) w2 _ fun q B3 H3 g3 n3 b3 o3 w3 => ?_
  obtain ⟨ob, eb⟩ := o2.ex
  have hnp : p ∉ ps := W.w.fresh n2
  have hpq : q ≠ p := fun z => by rw [z, eb] at n3; cases n3
  have o2' : OwnAt B3 H3 p x := o2.up (fun o e => g3.h p o e hnp) g3.b
  have W1 := W.new (u := x) (g2.trans g3) w3 n2 (g3.noB b2 eb hnp) o2'
  have hq : q ∉ ps ++ [p] := fun z => by
    rcases List.mem_append.mp z with z | z
    · exact w2.fresh n3 z
    · simp at z; exact hpq z
  have W2 : Wh β B3 H3 ((ps ++ [p]) ++ [q]) ((us2 ++ [x]) ++ [y]) := ⟨W1.g, W1.w.add hq ⟨.inr (W.g.n q (g2.n q n3)), o3.ex, .inr ⟨b3, o3⟩⟩, fun r hr => by
    have := W1.hd r hr
    cases ps with
    | nil => simpa using this
    | cons a t => simpa using this⟩
  rw [List.append_assoc] at W2
  exact two_cells W2 fun H4 W4 => k p q B3 H4 _ W4 (g2.b.trans g3.b) e
theorem q_tupNV {f : U → SM α} (W : Wh β B H ps us) (ha : EvN β.M ps σ B ta F) (hb : EvS β.M ps σ B tb G) (e : bindS F (fun x => bindS G fun y => addS x (f y)) us = some R)
    (k : ∀ p y w B1 H1 us1, Rp B1 y w → Wh β B1 H1 (ps ++ [p]) us1 → Same B B1 → f y us1 = some R → tz D ((σ.set i (some (.ref p))).set j (some w)) H1) : tSeq (tAsg (tTup (tCons ta (tCons tb tNil))) (gTup K 2 (gCons (gName i) (gCons (gName j) gNil)))) tz D σ H := by
  obtain ⟨x, us1, ex, e⟩ := bindS_some e
  obtain ⟨y, us2, ey, e⟩ := bindS_some e
  refine ha _ _ _ ex B H W.at W.w _ fun p B2 H2 g2 n2 b2 o2 w2 => hb _ _ _ ey B2 H2 (W.at.trs g2) w2 _ fun v B3 H3 g3 r3 w3 => ?_
  obtain ⟨ob, eb⟩ := o2.ex
  have hnp : p ∉ ps := W.w.fresh n2
  have o2' : OwnAt B3 H3 p x := o2.up (fun o e => g3.h p o e hnp) g3.b
  exact two_cells (W.new (u := x) (g2.trans g3) w3 n2 (g3.noB b2 eb hnp) o2') fun H4 W4 => k p y v B3 H4 _ r3 W4 (g2.b.trans g3.b) e
theorem q_tupVN {f : U → SM α} (W : Wh β B H ps us) (ha : EvS β.M ps σ B ta F) (hb : EvN β.M ps σ B tb G) (e : bindS F (fun y => bindS G fun x => addS x (f y)) us = some R)
    (k : ∀ p y w B1 H1 us1, Rp B1 y w → Wh β B1 H1 (ps ++ [p]) us1 → Same B B1 → f y us1 = some R → tz D ((σ.set i (some w)).set j (some (.ref p))) H1) : tSeq (tAsg (tTup (tCons ta (tCons tb tNil))) (gTup K 2 (gCons (gName i) (gCons (gName j) gNil)))) tz D σ H := by
  obtain ⟨x, us1, ex, e⟩ := bindS_some e
  obtain ⟨y, us2, ey, e⟩ := bindS_some e
  refine ha _ _ _ ex B H W.at W.w _ fun v B2 H2 g2 r2 w2 => hb _ _ _ ey B2 H2 (W.at.trs g2) w2 _ fun p B3 H3 g3 n3 b3 o3 w3 => ?_
  exact two_cells (W.new (u := y) (g2.trans g3) w3 (g2.n p n3) b3 o3) fun H4 W4 => k p x v B3 H4 _ (r2.upA g3.at) W4 (g2.b.trans g3.b) e
end
/-! ### a dict display with one pair, one's own -/
section
variable {M : Addr → Prop} {ps : List Addr} {σ : L2.St} {B H : Hp} {F G : SM U} {tk tv : TE}
def disp1S (F G : SM U) : SM U := bindS F fun x => bindS G fun y => pureS (x.key.map fun k => U.dic [(k, y)])
theorem en_disp1 (ha : EvS M ps σ B tk F) (hb : EvS M ps σ B tv G) : EvN M ps σ B (tDisp [(tk, tv)]) (disp1S F G) := fun us z us' e B1 H1 g w Q q => by
  obtain ⟨x, us1, ex, e⟩ := bindS_some e
  obtain ⟨y, us2, ey, e⟩ := bindS_some e
  obtain ⟨ee, rfl⟩ := pureS_some e; clear e
  obtain ⟨k, ek, ee⟩ := map_some ee
  subst ee
  intro p hp
  have g0 : Go B1 H1 B1 (upd H1 p (.dK [])) := Go.own g.bh hp
  have hnp : p ∉ ps := w.fresh hp
  refine ha _ _ _ ex B1 _ (g.trans g0) (w.go g0) _ fun v B2 H2 g2 r2 w2 => hb _ _ _ ey B2 H2 ((g.trans g0).trs g2) w2 _ fun v' B3 H3 g3 r3 w3 => ?_
  have e2 : H2 p = some (.dK []) := g2.h _ _ upd_same hnp
  have e3 : H3 p = some (.dK []) := g3.h _ _ e2 hnp
  have b1 : B1 p = none := g.bh.free hp
  have b3 : B3 p = none := g3.noB (g2.noB b1 upd_same hnp) e2 hnp
  refine ⟨e3, [(k, v')], ?_, (by show 1 ≤ 15; decide), ?_⟩
  · rw [r2.key ek]; rfl
  · have g13 : Gs (inP ps) B1 H1 B3 H3 := ((Gs.of g0).trans g2).trans g3
    have g4 : Gs (inP ps) B1 H1 B3 (upd H3 p (.dK (mergeK [] [(k, v')]))) := ⟨fun a o e hm => by
        have hap : a ≠ p := ne_of_none e hp
        rw [upd_ne hap]; exact g13.h a o e hm, fun a e => by
        by_cases hap : a = p
        · subst hap; exact hp
        · rw [upd_ne hap] at e; exact g13.n a e, g13.b, same_upd g13.bh b3, g13.fr⟩
    refine q p B3 _ g4 hp b3 ⟨_, upd_same, .cons r3 .nil⟩ ?_
    exact w3.keep (fun a ha o e => by rw [upd_ne (mem_ne ha hnp)]; exact e) (Same.refl _) (fun a _ hb => hb)
end
/-! ### a new object made while another one is looked at -/
def lockN (j : Nat) (F : U → SM U) : SM U := fun us => us[j]?.bind fun u => if u.own = true then (F u (us.set j .non)).bind fun r => if r.1.plc = true ∧ r.2.all U.plc = true then some (r.1, r.2.set j u) else none else none
section
variable {M : Addr → Prop} {ps : List Addr} {σ : L2.St} {B H : Hp} {te : TE} {j : Nat} {p : Addr}
theorem en_lockN {F : U → SM U} (hp : ps[j]? = some p) (h : ∀ u B', Same B B' → Rp B' u (.ref p) → EvN M ps σ B' te (F u)) : EvN M ps σ B (tLockE te) (lockN j F) := fun us z us' e B1 H1 g w Q q => by
  obtain ⟨u, eu, e⟩ := bind_some e
  split at e
  · rename_i ho
    obtain ⟨⟨z1, us2⟩, ez, e⟩ := bind_some e
    split at e
    · rename_i hz
      cases e
      have wp := w.at_ j p u hp eu
      obtain ⟨hb, ow⟩ := wp.own ho
      obtain ⟨o1, e1, mu, hl⟩ := ow.lock
      refine ⟨p, o1, e1, mu, fun od => ?_⟩
      have r1 : Rp (upd B1 p (.frz od o1)) u (.ref p) := (hl od).resolve_right (fun z => z hb)
      have s1 : Same (upd B1 p (.frz od o1)) (upd H1 p (.frz od o1)) := fun b x hx => by
        by_cases hbp : b = p
        · subst hbp; rw [upd_same] at hx ⊢; exact hx
        · rw [upd_ne hbp] at hx ⊢; exact g.bh b x hx
      have w1 : Ows M (upd B1 p (.frz od o1)) (upd H1 p (.frz od o1)) ps (us.set j .non) :=
        w.set hp (fun q _ hq o e => by rw [upd_ne hq]; exact e) (same_lock hb) (fun q _ hq hn => by rw [upd_ne hq]; exact hn) ⟨wp.m, ⟨_, upd_same⟩, .inl rfl⟩
      refine h u _ (g.b.trans (same_lock hb)) r1 _ _ _ ez _ _ (At.refl s1) w1 _ fun q0 B2 H2 g2 n2 b2 o2 w2 => ?_
      have eB : B2 p = some (.frz od o1) := g2.b _ _ upd_same
      have eH : H2 p = some (.frz od o1) := g2.bh _ _ eB
      have er : ∀ a o, B2 a = some o → a ≠ p → eraseB B2 p a = some o := fun a x hx ha => by rw [erase_ne ha]; exact hx
      have sB : Same B1 (eraseB B2 p) := fun a x hx => by
        have ha : a ≠ p := ne_of_none hx hb
        rw [erase_ne ha]; exact g2.b a x (by rw [upd_ne ha]; exact hx)
      have gg : Gs (inP ps) B1 H1 (eraseB B2 p) (upd H2 p o1) := by
        refine ⟨fun a x hx hm => ?_, fun a hx => ?_, sB, fun a x hx => ?_, fun a x hx => ?_⟩
        · have ha : a ≠ p := fun z => hm (by rw [z]; exact List.mem_of_getElem? hp)
          rw [upd_ne ha]; exact g2.h a x (by rw [upd_ne ha]; exact hx) hm
        · by_cases ha : a = p
          · subst ha; rw [upd_same] at hx; cases hx
          · rw [upd_ne ha] at hx
            have := g2.n a hx
            rwa [upd_ne ha] at this
        · by_cases ha : a = p
          · subst ha; rw [erase_same] at hx; cases hx
          · rw [erase_ne ha] at hx; rw [upd_ne ha]; exact g2.bh a x hx
        · by_cases ha : a = p
          · subst ha; rw [erase_same] at hx; cases hx
          · rw [erase_ne ha] at hx
            rcases g2.fr a x hx with z | z | z
            · rw [upd_ne ha] at z; exact .inl z
            · rw [upd_ne ha] at z; exact .inr (.inl z)
            · exact .inr (.inr z)
      have hj : j < us2.length := by rw [w2.len]; exact (List.getElem?_eq_some_iff.mp hp).1
      have wf : Ows M (eraseB B2 p) (upd H2 p o1) ps (us2.set j u) := by
        refine ⟨by rw [List.length_set, w2.len], w2.nd, fun i q v hq hv => ?_⟩
        by_cases hij : i = j
        · subst hij
          rw [hp] at hq; cases hq
          rw [List.getElem?_set_self hj] at hv; cases hv
          exact ⟨wp.m, ⟨_, upd_same⟩, .inr ⟨erase_same, ow.up (fun o e => by rw [upd_same, ← e1]; exact e) sB⟩⟩
        · rw [List.getElem?_set_ne (Ne.symm hij)] at hv
          have hne : q ≠ p := fun z => hij (w2.nd i j q hq (by rw [z]; exact hp))
          obtain ⟨q1, ⟨o, q2⟩, q3⟩ := w2.at_ i q v hq hv
          refine ⟨q1, ⟨o, by rw [upd_ne hne]; exact q2⟩, ?_⟩
          rcases q3 with q3 | ⟨q3, q4⟩
          · exact .inl q3
          · refine .inr ⟨by rw [erase_ne hne]; exact q3, q4.erase eB er (upd_ne hne) ?_⟩
            exact List.all_eq_true.mp hz.2 v (List.mem_of_getElem? hv)
      have hq0 : q0 ≠ p := fun z => by rw [z, upd_same] at n2; cases n2
      rw [upd_ne hq0] at n2
      exact ⟨eH, q q0 _ _ gg n2 (by rw [erase_ne hq0]; exact b2) (o2.erase eB er (upd_ne hq0) hz.1) wf⟩
    · cases e
  · cases e
end
theorem ps_lockA {X : Cx} {st : Stmt} {te : TE} {i : Nat} (h : PS X st (tAsg te (gName i))) : PS X st (tAsg (tLockE te) (gName i)) := ps_lock h
/-! ### what is never asked -/
def tNeverE : TE := fun _ _ _ => False
theorem pe_never {X : Cx} {e : Expr} : PE X e tNeverE := ⟨fun _ _ _ _ _ _ h => h.elim⟩
theorem eo_never {σ : L2.St} {B H : Hp} : EvO tNeverE σ B H none := fun _ e => nomatch e
end Dn
set_option Elab.async false
set_option linter.all false
set_option maxRecDepth 100000
set_option maxHeartbeats 2000000
namespace Dn
open PySem L2 PySem.Spec PyProof.Rows
section
variable [CTab]
/-! ### max, min of a list -/
def rMaxA (K : PySem.W.Frag) : List V → Hp → VK → Prop := fun xs H Q => rMax K xs H Q ∨ ∃ i j, xs = [V.int i, .int j] ∧ Q (.int (if j > i then j else i)) H
theorem call_maxK {X : Cx} {K : PySem.W.Frag} (hK : X.K = K) (hc : X.calm = true) : CallR X (.builtin "max") (rMaxA K) := hK ▸ CallR.or (cr_max hc) (call_max2 hc)
def maxL : List Int → Option Int
  | [] => none
  | n :: r => some (r.foldl max n)
def maxA : List U → Option U
  | [.lst xs] => ((intsU xs).bind maxL).map U.int
  | xs => maxU xs
theorem maxL_mem : ∀ {ns : List Int} {m : Int}, maxL ns = some m → m ∈ ns ∧ ∀ y ∈ ns, y ≤ m := by
  have key : ∀ (r : List Int) (n : Int), (r.foldl max n = n ∨ r.foldl max n ∈ r) ∧ n ≤ r.foldl max n ∧ ∀ y ∈ r, y ≤ r.foldl max n := by
    intro r
    induction r with
    | nil => intro n; exact ⟨.inl rfl, Int.le_refl _, fun y h => by cases h⟩
    | cons a r ih =>
      intro n
      obtain ⟨h1, h2, h3⟩ := ih (max n a)
      rw [List.foldl_cons]
      refine ⟨?_, by omega, fun y hy => ?_⟩
      · rcases h1 with h1 | h1
        · rcases Int.le_total n a with q | q
          · rw [h1, Int.max_eq_right q]; exact .inr (List.mem_cons_self ..)
          · rw [h1, Int.max_eq_left q]; exact .inl rfl
        · exact .inr (List.mem_cons_of_mem _ h1)
      · rcases List.mem_cons.mp hy with rfl | hy
        · omega
        · exact h3 y hy
  intro ns m h
  cases ns with
  | nil => cases h
  | cons n r =>
    cases h
    obtain ⟨h1, h2, h3⟩ := key r n
    refine ⟨?_, fun y hy => ?_⟩
    · rcases h1 with h1 | h1
      · rw [h1]; exact List.mem_cons_self ..
      · exact List.mem_cons_of_mem _ h1
    · rcases List.mem_cons.mp hy with rfl | hy
      · exact h2
      · exact h3 y hy
theorem rc_maxA {K : PySem.W.Frag} : RC (rMaxA K) maxA := fun xs z e vs B H s rs Q q => by
  unfold maxA at e
  split at e
  · rename_i l
    obtain ⟨m, em, e⟩ := map_some e
    subst e
    obtain ⟨ns, en, em⟩ := bind_some em
    obtain ⟨h1, h2⟩ := maxL_mem em
    cases rs with
    | cons r1 t =>
      cases t
      cases r1 with
      | @lst a _ ws h r =>
        refine .inl ⟨a, ns, rfl, by rw [← r.intsOf en]; exact SqL.of (s _ _ h), List.length_pos_of_mem h1, fun m' h3 h4 => ?_⟩
        have : m' = m := Int.le_antisymm (h2 _ h3) (h4 _ h1)
        subst this
        exact q _ B H (Go.refl s) (.int _)
  · exact .inr (rc_max _ _ e _ _ _ s rs Q q)
/-! ### repr -/
mutual
def U.py : U → Option PyData
  | .non => some .none
  | .bl b => some (.bool b)
  | .int i => some (.int i)
  | .str z => some (.str z)
  | .tup xs => (U.pys xs).map PyData.tuple
  | .tpd xs => (U.pys xs).map PyData.tuple
  | .lst xs => (U.pys xs).map PyData.list
  | _ => none
def U.pys : List U → Option (List PyData)
  | [] => some []
  | x :: xs => (U.py x).bind fun d => (U.pys xs).map fun r => d :: r
end
section
variable {K : PySem.W.Frag} {H : Hp}
mutual
theorem Rp.dp : ∀ {x : U} {v : V} {d : PyData}, Rp H x v → x.py = some d → Dp K H v d
  | _, _, _, .non, e => by cases e; exact .non
  | _, _, _, .bl b, e => by cases e; exact .bl b
  | _, _, _, .int b, e => by cases e; exact .int b
  | _, _, _, .str b, e => by cases e; exact .str b
  | _, _, _, @Rp.tup _ _ a xs vs h r, e => by
    obtain ⟨ds, e1, e⟩ := map_some (show (U.pys xs).map PyData.tuple = _ by simpa [U.py] using e)
    subst e
    exact .tup (SqT.of h) (Rps.dp r e1)
  | _, _, _, @Rp.lst _ _ a xs vs h r, e => by
    obtain ⟨ds, e1, e⟩ := map_some (show (U.pys xs).map PyData.list = _ by simpa [U.py] using e)
    subst e
    exact .lst (SqL.of h) (Rps.dp r e1)
  | _, _, _, .frl _ _, e => by simp [U.py] at e
  | _, _, _, .dic _ _, e => by simp [U.py] at e
  | _, _, _, .dit _ _, e => by simp [U.py] at e
  | _, _, _, @Rp.tpd _ _ a xs vs o h _ r, e => by
    obtain ⟨ds, e1, e⟩ := map_some (show (U.pys xs).map PyData.tuple = _ by simpa [U.py] using e)
    subst e
    exact .tup (.inl (.inr ⟨o, h⟩)) (Rps.dp r e1)
  | _, _, _, .obj _ _ _, e => by simp [U.py] at e
theorem Rps.dp : ∀ {xs : List U} {vs : List V} {ds : List PyData}, Rps H xs vs → U.pys xs = some ds → DpAll K H vs ds
  | _, _, _, .nil, e => by simp [U.pys] at e; subst e; exact .nil
  | _, _, _, @Rps.cons _ _ x v xs vs h r, e => by
    obtain ⟨d, e1, e⟩ := bind_some (show (U.py x).bind (fun d => (U.pys xs).map fun r => d :: r) = _ by simpa [U.pys] using e)
    obtain ⟨ds, e2, e⟩ := map_some e
    subst e
    exact .cons (Rp.dp h e1) (Rps.dp r e2)
end
end
def rRepr (K : PySem.W.Frag) : List V → Hp → VK → Prop := fun xs H Q => ∃ v d, xs = [v] ∧ Dp K H v d ∧ d.showable = true ∧ d.hasDict = false ∧ d.depth ≤ 40 ∧ d.shown.length ≤ sizeLine ∧ Q (.str d.shown) H
theorem call_repr {X : Cx} (hg : X.A.guards = some []) (hu : X.A.units + 64 < cLine) : CallR X (.builtin "repr") (rRepr X.K) := by
  intro pins s σ H xs us Q I rx h
  obtain ⟨v, d, rfl, hd, h1, h2, h3, h4, q⟩ := h
  obtain ⟨u, rfl, ru⟩ := vals1 rx
  obtain ⟨as, rd⟩ := Dp.reads I d v u hd ru
  cases hd with
  | non => cases ru; exact PySem.P.repr_of_none ⟨.str _, H, I.kept (t' := s.toks + 1) (fun b o e => e), ⟨_, rfl⟩, q⟩
  | bl b => cases ru; exact PySem.P.repr_of_bool ⟨.str _, H, I.kept (t' := s.toks + 1) (fun b o e => e), ⟨_, rfl⟩, q⟩
  | int i =>
    obtain ⟨t, rfl⟩ := ru
    exact PySem.P.repr_of_int (by simpa [PyData.showable] using h1) ⟨.str _, H, I.kept (t' := s.toks + 1) (fun b o e => e), ⟨_, rfl⟩, q⟩
  | str i =>
    obtain ⟨t, rfl⟩ := ru
    exact PySem.P.repr_of_str ⟨.str _, H, I.kept (t' := s.toks + 1) (fun b o e => e), ⟨_, rfl⟩, q⟩ h4
  | @lst a xs ds e1 e2 =>
    cases ru
    exact repr_of_reads' rd h1 (fun z => by rw [h2] at z; cases z) hg (by omega) (fun b o e => e) (fun h' u tk hk => ⟨.str _, H, I.kept (t' := tk) hk, ⟨_, rfl⟩, q⟩) h4
  | @tup a xs ds e1 e2 =>
    cases ru
    exact repr_of_reads' rd h1 (fun z => by rw [h2] at z; cases z) hg (by omega) (fun b o e => e) (fun h' u tk hk => ⟨.str _, H, I.kept (t' := tk) hk, ⟨_, rfl⟩, q⟩) h4
theorem call_reprK {X : Cx} {K : PySem.W.Frag} (hK : X.K = K) (hg : X.A.guards = some []) (hu : X.A.units + 64 < cLine) : CallR X (.builtin "repr") (rRepr K) := hK ▸ call_repr hg hu
def reprV : U → Option U := fun x => x.py.bind fun d => if d.showable = true ∧ d.hasDict = false ∧ d.depth ≤ 40 ∧ d.shown.length ≤ lim then some (.str d.shown) else none
theorem rc_repr {K : PySem.W.Frag} : RC (rRepr K) (c1 reprV) := rc_one c1_one fun x z e v B H s rx Q q => by
  obtain ⟨d, ed, e⟩ := bind_some (show x.py.bind _ = _ from e)
  split at e
  · rename_i h
    cases e
    exact ⟨v, d, rfl, (rx.in s).dp ed, h.1, h.2.1, h.2.2.1, lim_size h.2.2.2, q _ B H (Go.refl s) (.str _)⟩
  · cases e
end
/-! ### defs that ask who is being shown -/
structure FnG (P : Program) (w : World) (K : PySem.W.Frag) (mg : Str → Option Value) (base : Heap) (CX : CXT) (k : Nat) (f : Addr) (fd : FuncData) (ps : List Str) (sp : Sp) : Prop where
  len : ∀ vs H Q E, sp vs H Q E → vs.length = ps.length
  run : ∀ (A : Around) (outer : List Env) (s : Shared) (H : Hp) (args : Args) (us : List Value) (vs : List V) (Q : VK) (E : XK), A.guards = some [] → Room k A → Env0 P w K mg base A outer s H → BindsTo s fd args (ps.zip us) → Vals vs us → sp vs H Q E →
    codeAny (model P w) A (.call (.ref f) args) (CR CX outer P w H s Q E) s
section
variable {P : Program} {w : World} {K : PySem.W.Frag} {mg : Str → Option Value} {base : Heap}
theorem FnG.of {CX : CXT} {k : Nat} {f : Addr} {fd : FuncData} {ps : List Str} {sp : Sp} (F : FnOk P w K mg base CX k f fd ps sp) : FnG P w K mg base CX k f fd ps sp := ⟨F.len, fun A outer s H args us vs Q E _ => F.run A outer s H args us vs Q E⟩
theorem Fun.okG {x qual : Str} {st : Stmt} {f : Addr} {fd : FuncData} {N ps : List Str} {k : Nat} {sp : Sp} (F : Fun K x qual st f fd) (S : FnScope N ps (defScope st)) (len : ∀ vs H Q E, sp vs H Q E → vs.length = ps.length)
    (hb : ∀ (cdv : Value) (A : Around) (outer : List Env) (s : Shared) (H : Hp) (vs : List V) (Q : VK) (E : XK), A.guards = some [] → Room k (A.deeper (envOfC qual (defScope st) s.heap.objs.size f cdv)) → sp vs H Q E →
      ∃ t, PSs (cxOf CX0 P w K mg base N qual (defScope st) f cdv A outer s H E).nox (defBody st) t ∧ t { nx := fun _ H' => Q .non H', rt := Q } (start N vs) H) : FnG P w K mg base CX0 (k + 1) f fd ps sp := by
  obtain ⟨oc, od, kV, doc, pm, an, cdv, ct, osl, rfl, lk, cd⟩ := F.ex
  refine ⟨len, fun A outer s H args us vs Q E hg hr e0 hbn r sp1 => ?_⟩
  have ln := len _ _ _ _ sp1
  have kin : K.In s.heap := e0.mod.kin.keeps fun b o e => (e0.bs b o e).1
  have nl : s.heap.NoLimit := e0.mod.nolimit.keeps fun b o e => (e0.bs b o e).1
  have kd : ∀ y ∈ ps.zip us, (defScope st).names.lookup y.1 = some .local ∨ ((defScope st).names.lookup y.1 = some .cell ∧ ((cellsFrom (s.heap.objs.size + 1) (defScope st).names []).lookup y.1).isSome = true) := fun ⟨n, v⟩ hy => by
    rcases S.par n (List.of_mem_zip hy).1 with z | z
    · exact .inl z
    · exact .inr ⟨z, PySem.W.cellsFrom_some _ _ _ (.inl z)⟩
  refine codeAny_call_function hr.depth (kin _ _ lk) rfl S.co S.gen rfl (PySem.W.codeRec_of kin cd) (hbn _ _ _ _ ?_)
  refine wpAny_newFunctionEnv_cells S.kind kd fun env he s1 x1 => ?_
  subst he
  refine ⟨nl.keeps x1.toInCall.keep, codeAny_func ?_⟩
  obtain ⟨t, ht, q⟩ := hb cdv A outer s H vs Q E hg (hr.deeper _) sp1
  have I : Inv (cxOf CX0 P w K mg base N qual (defScope st) f cdv A outer s H E) [] (start N vs) H s1 := inv_start S hr.hd e0 ln r x1
  refine wpAny_mono (ht.nox.run [] s1 (start N vs) H _ I q) (fun fl s2 hs => ?_) fun e s2 hs => hs
  cases fl with
  | ret u =>
    obtain ⟨v, σ2, H2, J, rv, q2⟩ := hs
    exact ⟨v, H2, J.os, J.bare, J.base, J.hok, rv, q2⟩
  | next =>
    obtain ⟨σ2, H2, J, q2⟩ := hs
    exact ⟨V.non, H2, J.os, J.bare, J.base, J.hok, rfl, q2⟩
  | brk =>
    obtain ⟨_, _, _, q2⟩ := hs
    exact False.elim q2
  | cont =>
    obtain ⟨_, _, _, q2⟩ := hs
    exact False.elim q2
end
section
variable {X : Cx} {CX : CXT} {k : Nat} {f : Addr} {fd : FuncData} {ps : List Str} {sp : Sp} {dvs : List V} {ds : List Value} {E : XK} {x : Str} {p pos : Pos} {e : Expr} {es : List Expr} {t : TA}
theorem pe_callG (F : FnG X.prog X.w X.K X.mg X.base CX k f fd ps sp) (hg0 : X.A.guards = some []) (hr : Room k X.A) (hg : Gl X x) (hm : X.mg x = some (.ref f)) (hk : PySem.W.keepIn X.K (.ref f) = true) (hb : Binds X.K fd ps ds) (hd : Vals dvs ds) (hx : Passes CX X E)
    (ha : PA X (e :: es) t) (hdb : (x == ("__debug__" : Str)) = false := by decide) (he : starEach (e :: es) X.env = (false, eval e X.env) :: starEach es X.env := by rfl) (hpl : (backTo pos (starEach es X.env)).any (·.1) = false := by rfl) :
    PE X (.Call (.Name x p) (e :: es) [] pos) (tCall sp dvs E t) := by
  refine ⟨fun pins s σ H Q I h => ?_⟩
  refine wpAny_Call_Name_kw (ld_glob I hg hm ?_ hdb)
  refine PySem.W.callWith_K (h₀ := X.base) I.ok.mod.kin hk (thn (ha.run pos pins s σ H _ I h) fun us s1 ⟨vs, H1, I1, r, q⟩ => ⟨I1.kIn, ?_⟩) he hpl
  have r2 : Vals (vs ++ dvs) (us ++ ds) := r.append hd
  have hl : (us ++ ds).length = ps.length := by rw [← r2.length]; exact F.len _ _ _ _ q
  refine wpAny_call (codeAny_mono (F.run X.A X.stack s1 H1 ⟨us, []⟩ (us ++ ds) (vs ++ dvs) Q E hg0 hr I1.env0 (hb s1 us I1.kIn hl) r2 q) fun r s2 hq => ?_)
  cases r with
  | error e => exact hx pins σ H1 s1 e s2 I1 hq
  | ok fl =>
    cases fl with
    | ret u => exact I1.after hq
    | next => exact False.elim hq
    | brk => exact False.elim hq
    | cont => exact False.elim hq
end
end Dn
set_option Elab.async false
set_option linter.all false
set_option maxRecDepth 100000
set_option maxHeartbeats 2000000
namespace Dn
open PySem L2 PySem.Spec PyProof.Rows
/-! ### what comes behind a loop -/
def withK {κ α : Type} (K : κ) (f : κ → α) : α := f K
theorem q_withS {κ α : Type} {K : κ} {f : κ → SM α} {us : List U} {R : α × List U} {G : Prop} (e : withK K f us = some R) (k : ∀ K', K' = K → f K' us = some R → G) : G := k K rfl e
theorem q_withO {κ α : Type} {K : κ} {f : κ → Option α} {R : α} {G : Prop} (e : withK K f = some R) (k : ∀ K', K' = K → f K' = some R → G) : G := k K rfl e
/-! ### the end of a law whose defs ask who is being shown -/
section
variable {P : Program} {w : World} {K : PySem.W.Frag} {mg mb : Str → Option Value} {s1 : Shared} {a : Addr} {vs : List Value} {ns : List Int}
/-- where the law begins: only the script is tracked -/
structure Beg (P : Program) (w : World) (K : PySem.W.Frag) (mg : Str → Option Value) (s1 : Shared) (a : Addr) (ns : List Int) (H : Hp) : Prop where
  only : Only H
  sq : SqL K H a (ns.map V.int)
  ok : HOk P w H s1.heap
  at_ : ∀ b, H b ≠ none → b = a
  no : H a ≠ none → K.lookup a = none
theorem beg_of (KX : K.In s1.heap) (ha : s1.heap.get? a = some { cls := .type "list", data := .seq vs.toArray }) (hi : IntsAre vs ns) (hl : ns.length ≤ sizeLine) : ∃ H, Beg P w K mg s1 a ns H := by
  have hv := vals_ints hi
  have hn := hi.length
  cases hk : K.lookup a with
  | some o =>
    obtain rfl := Option.some.inj (ha.symm.trans (KX a o hk))
    have q : SqL K (fun _ => none) a (ns.map V.int) := .inr ⟨_, vs.toArray, _, hk, rfl, rfl, rfl, by rw [List.size_toArray, hn]; exact hl, by simpa using hv⟩
    exact ⟨fun _ => none, fun _ => .inl rfl, q, fun b u z => (by cases (show (none : Option HO) = some u from z)), fun b z => absurd rfl z, fun z => absurd rfl z⟩
  | none =>
    let o : Obj := { cls := .type "list", data := .seq vs.toArray }
    let H : Hp := upd (fun _ => none) a (.frz o (.lst (ns.map V.int)))
    have e1 : H a = some (.frz o (.lst (ns.map V.int))) := upd_same
    have e2 : ∀ b, b ≠ a → H b = none := fun b hb => upd_ne hb
    refine ⟨H, fun b => ?_, .inl (.inr ⟨o, e1⟩), fun b u z => ?_, fun b z => ?_, fun _ => hk⟩
    · by_cases hb : b = a
      · subst hb; exact .inr ⟨o, _, e1⟩
      · exact .inl (e2 b hb)
    · by_cases hb : b = a
      · subst hb
        rw [e1] at z
        cases z
        exact ⟨ha, by rw [List.length_map]; exact hl, vs, _, hv, ha⟩
      · rw [e2 b hb] at z; cases z
    · by_cases hb : b = a
      · exact hb
      · exact absurd (e2 b hb) z
theorem law_callG {CX : CXT} {k : Nat} {fa : Addr} {fd : FuncData} {x : Str} {sp : Sp} (KX : K.In s1.heap) (gm : s1.heap.Ns mainGlobals mg) (gb : s1.heap.Ns builtinsNs mb) (bb : ∀ x : Str, x ≠ "__name__" → mb x = bootBuiltins x) (nl : s1.heap.NoLimit) (g0 : s1.gens = #[])
    (ha : s1.heap.get? a = some { cls := .type "list", data := .seq vs.toArray }) (hi : IntsAre vs ns) (hl : ns.length ≤ sizeLine) (hr : Room k callerA) (F : ∀ base : Heap, K.In base → base.Ns mainGlobals mg → FnG P w K mg base CX k fa fd [x] sp)
    (bnd : ∀ (s : Shared) (u : Value), BindsTo s fd ⟨[u], []⟩ [(x, u)]) (hsp : ∀ H : Hp, Only H → SqL K H a (ns.map V.int) → sp [.ref a] H (fun v _ => v = .bl true) fun _ _ _ => False) (hCX : ∀ H e s2, CX [] H s1 (fun _ _ _ => False) e s2 → False) :
    codeAny (model P w) callerA (.call (.ref fa) ⟨[.ref a], []⟩) (fun r s2 => r = .ok (.ret (.bool true)) ∧ OldK s1.heap s2.heap ∧ s2.os = s1.os ∧ AllBare s2.gens) s1 := by
  obtain ⟨H, bg⟩ := beg_of (P := P) (w := w) (mg := mg) KX ha hi hl
  have free : ∀ {b : Addr} {o : Obj} {es : Array DictEntry} {ep : Nat}, s1.heap.get? b = some o → o.data = .dict es ep → H b = none := fun {b o es ep} e d => by
    cases q : H b with
    | none => rfl
    | some u =>
      obtain rfl := bg.at_ b (fun z => by rw [q] at z; cases z)
      obtain rfl := Option.some.inj (ha.symm.trans e)
      cases (show Data.seq vs.toArray _ = Data.dict es ep from d)
  have ns2 : ∀ {b : Addr} {m : Str → Option Value}, s1.heap.Ns b m → (hidT s1.heap H).Ns b m := fun {b m} ⟨o, es, ep, e, d, r⟩ => ⟨o, es, ep, hidT_get e (free e d), d, r⟩
  have k2 : K.In (hidT s1.heap H) := fun b o e => hidT_get (KX b o e) (by
    cases q : H b with
    | none => rfl
    | some u =>
      obtain rfl := bg.at_ b (fun z => by rw [q] at z; cases z)
      rw [bg.no (fun z => by rw [q] at z; cases z)] at e; cases e)
  have md : Mod K mg (hidT s1.heap H) := ⟨k2, ns2 gm, ⟨mb, ns2 gb, bb⟩, let ⟨mc, h1, h2⟩ := nl; ⟨mc, ns2 h1, h2⟩⟩
  have nof : ∀ b ∈ frs ([] : List Env), H b = none := fun b z => nomatch (show b ∈ ([] : List Addr) from z)
  have e0 : Env0 P w K mg (hidT s1.heap H) callerA [] s1 H := ⟨rfl, md, fun b o e => of_hidT e, Nat.le_of_eq (hidT_size _ _), trivial, nof, bg.ok, .of_eq g0⟩
  refine codeAny_mono ((F _ k2 (ns2 gm)).run callerA [] s1 H ⟨[.ref a], []⟩ [.ref a] [.ref a] _ _ rfl hr e0 (bnd s1 (.ref a)) (.cons rfl .nil) (hsp H bg.only bg.sq)) fun r s2 h => ?_
  match r, h with
  | .error e, h => exact (hCX H e s2 h).elim
  | .ok .next, h => exact False.elim h
  | .ok .brk, h => exact False.elim h
  | .ok .cont, h => exact False.elim h
  | .ok (.ret u), h =>
    obtain ⟨v, H2, os, bare, un, ok2, rv, q⟩ := h
    obtain rfl : v = .bl true := q
    obtain rfl : u = Value.bool true := rv
    refine ⟨rfl, OldK.of_keep fun b o e => ?_, os, bare⟩
    rcases bg.only b with z | ⟨ob, xs, z⟩
    · exact un.keep b o e z (fun y => nomatch (show b ∈ ([] : List Addr) from y)) (by simp)
    · obtain ⟨e1, _⟩ := bg.ok b _ z
      obtain ⟨e2, _⟩ := ok2 b _ (un.frzs b ob _ z)
      obtain rfl := Option.some.inj (e.symm.trans e1)
      exact e2
end
theorem walk_ofG {l : PySem.W.OpenLaw} {n k : Nat} {q : Program} {loose : List Str} {XP : (Str → Option Value) → Heap → Prop} {YP : World → Heap → Prop} {d : DefRec} {K : Params → PySem.W.Frag} {sp : Sp} {x : Str}
    (hn : l.most = some n) (hz : n ≤ sizeLine) (df : d.params.defaults = []) (hr : Room k callerA) (hY : ∀ (w : World) (h : Heap), YP w h → (K w.params).In h)
    (F : ∀ (w : World) (mg : Str → Option Value) (fa : Addr) (h : Heap), (K w.params).In h → h.Ns mainGlobals mg → mg d.name = some (.ref fa) →
      ∃ fd : FuncData, (∀ (s : Shared) (u : Value), BindsTo s fd ⟨[u], []⟩ [(x, u)]) ∧ ∀ base : Heap, (K w.params).In base → base.Ns mainGlobals mg → FnG l.prog w (K w.params) mg base CX0 k fa fd [x] sp)
    (hsp : ∀ (K : PySem.W.Frag) (H : Hp) (a : Addr) (ns : List Int), ns.length ≤ n → Only H → SqL K H a (ns.map V.int) → sp [.ref a] H (fun v _ => v = .bl true) fun _ _ _ => False) :
    PySem.W.WalkO q loose XP YP l.row.toRowW d [] (fun f vs => PySem.call f vs) := by
  refine Att.attach_call hn df fun w s0 s1 mg mb fa o pm cd doc a vs ns G Y ho hd hcd hmg ha hi hlen g0 => ?_
  have KX := hY w _ Y
  obtain ⟨fd, hb, hF⟩ := F w mg fa _ KX G.T.g hmg
  exact law_callG KX G.T.g G.T.b G.T.builtins G.T.nolimit g0 ha hi (Nat.le_trans hlen hz) hr hF hb (fun H hO hS => hsp (K w.params) H a ns hlen hO hS) fun H e s2 h => h
end Dn
set_option Elab.async false
set_option linter.all false
set_option maxRecDepth 100000
set_option maxHeartbeats 2000000
namespace Dn
open PySem L2
variable [CTab]
def U.flat : U → Bool
  | .non | .bl _ | .int _ | .str _ => true
  | _ => false
theorem Rp.flat {B B' : Hp} {u : U} {v : V} (r : Rp B u v) (h : u.flat = true) : Rp B' u v := by
  cases r with
  | non => exact .non
  | bl b => exact .bl b
  | int b => exact .int b
  | str b => exact .str b
  | _ => cases h
/-! ### locked for good ahead of an expression -/
def tFrzA (t : TE) : TE := fun σ H Q => ∃ d u, H d = some u ∧ Mut (some u) ∧ ∀ od, t σ (upd H d (.frz od u)) Q
theorem pe_frzA {X : Cx} {e : Expr} {t : TE} (h : PE X e t) : PE X e (tFrzA t) := by
  refine ⟨fun pins s σ H Q I hw => ?_⟩
  obtain ⟨d, u, hd, mu, hw⟩ := hw
  obtain ⟨od, I1⟩ := I.lock hd mu
  exact h.run pins s σ _ _ I1 (hw od)
/-! ### a web being made: an object with two dicts, the second one of lists -/
def plU (org : List (Key × U)) (mad : List (Key × List U)) : U := .obj 0 [("origins", .dic org), ("made", .dic (mad.map fun km => (km.1, .lst km.2)))]
abbrev plF (o m : Addr) : List (Str × V) := [("origins", .ref o), ("made", .ref m)]
abbrev plA (x dx o m : Addr) (ls : List Addr) : List Addr := x :: dx :: o :: m :: ls
structure PlO (B H : Hp) (x dx o m : Addr) (ls : List Addr) (org : List (Key × U)) (mad : List (Key × List U)) : Prop where
  hx : H x = some (.ins (CTab.ct 0) dx (plF o m))
  hd : H dx = some (.own x)
  ho : ∃ eo, H o = some (.dK eo) ∧ Rpk B org eo
  hm : H m = some (.dK ((mad.map (·.1)).zip (ls.map V.ref)))
  len : ls.length = mad.length
  hl : ∀ (j : Nat) l k ns, ls[j]? = some l → mad[j]? = some (k, ns) → ∃ vs, H l = some (.lst vs) ∧ Rps B ns vs
  nd : (plA x dx o m ls).Nodup
  nb : ∀ a ∈ plA x dx o m ls, B a = none
open Classical in
/-- the part that stands for good, with the object laid into it -/
noncomputable def lay (L : List Addr) (H B : Hp) : Hp := fun a => if a ∈ L then H a else B a
theorem lay_in {L : List Addr} {H B : Hp} {a : Addr} (h : a ∈ L) : lay L H B a = H a := by simp [lay, h]
theorem lay_out {L : List Addr} {H B : Hp} {a : Addr} (h : a ∉ L) : lay L H B a = B a := by simp [lay, h]
theorem rpk_lists {B : Hp} : ∀ {mad : List (Key × List U)} {ls : List Addr}, ls.length = mad.length → (∀ (j : Nat) l k ns, ls[j]? = some l → mad[j]? = some (k, ns) → Rp B (.lst ns) (.ref l)) → Rpk B (mad.map fun km => (km.1, .lst km.2)) ((mad.map (·.1)).zip (ls.map V.ref))
  | [], [], _, _ => .nil
  | (k, ns) :: mad, l :: ls, h, f => .cons (f 0 l k ns rfl rfl) (rpk_lists (by simpa using h) fun j l' k' ns' h1 h2 => f (j + 1) l' k' ns' (by simpa using h1) (by simpa using h2))
  | [], _ :: _, h, _ => by simp at h
  | _ :: _, [], h, _ => by simp at h
section
variable {B H : Hp} {x dx o m : Addr} {ls : List Addr} {org : List (Key × U)} {mad : List (Key × List U)}
theorem PlO.ne (P : PlO B H x dx o m ls org mad) : x ≠ dx ∧ x ≠ o ∧ x ≠ m ∧ x ∉ ls ∧ dx ≠ o ∧ dx ≠ m ∧ dx ∉ ls ∧ o ≠ m ∧ o ∉ ls ∧ m ∉ ls := by
  have h := P.nd
  simp only [plA, List.nodup_cons, List.mem_cons, not_or] at h
  obtain ⟨⟨h1, h2, h3, h4⟩, ⟨h5, h6, h7⟩, ⟨h8, h9⟩, h10, _⟩ := h
  exact ⟨h1, h2, h3, h4, h5, h6, h7, h8, h9, h10⟩
theorem PlO.ndl (P : PlO B H x dx o m ls org mad) : ls.Nodup := by
  have h := P.nd
  simp only [plA, List.nodup_cons] at h
  exact h.2.2.2.2
theorem PlO.same (P : PlO B H x dx o m ls org mad) (H' : Hp) : Same B (lay (plA x dx o m ls) H' B) := fun a u e => by
  rw [lay_out (fun z => by rw [P.nb a z] at e; cases e)]; exact e
/-- locked, it is a value -/
theorem PlO.val (P : PlO B H x dx o m ls org mad) (s : Same B H) (ood mod' : Obj) {eo : List (Key × V)} (eho : H o = some (.dK eo)) :
    let H' := upd (upd H o (.frz ood (.dK eo))) m (.frz mod' (.dK ((mad.map (·.1)).zip (ls.map V.ref))))
    let B' := lay (plA x dx o m ls) H' B
    Same B' H' ∧ Rp B' (plU org mad) (.ref x) := by
  intro H' B'
  obtain ⟨n1, n2, n3, n4, n5, n6, n7, n8, n9, n10⟩ := P.ne
  have sB : Same B B' := P.same H'
  have hx' : H' x = some (.ins (CTab.ct 0) dx (plF o m)) := by show upd (upd H o _) m _ x = _; rw [upd_ne n3, upd_ne n2]; exact P.hx
  have hd' : H' dx = some (.own x) := by show upd (upd H o _) m _ dx = _; rw [upd_ne n6, upd_ne n5]; exact P.hd
  have ho' : H' o = some (.frz ood (.dK eo)) := by show upd (upd H o _) m _ o = _; rw [upd_ne n8, upd_same]
  have hm' : H' m = some (.frz mod' (.dK ((mad.map (·.1)).zip (ls.map V.ref)))) := by show upd (upd H o _) m _ m = _; rw [upd_same]
  refine ⟨fun a u e => ?_, ?_⟩
  · by_cases ha : a ∈ plA x dx o m ls
    · rw [show B' a = H' a from lay_in ha] at e; exact e
    · rw [show B' a = B a from lay_out ha] at e
      have h1 : a ≠ o := fun z => ha (by simp [z])
      have h2 : a ≠ m := fun z => ha (by simp [z])
      show upd (upd H o _) m _ a = _
      rw [upd_ne h2, upd_ne h1]; exact s a u e
  · obtain ⟨eo', e1, ro⟩ := P.ho
    rw [eho] at e1; cases e1
    refine .obj (a := x) (dx := dx) (es := plF o m) (by rw [show B' x = H' x from lay_in (by simp)]; exact hx') (by rw [show B' dx = H' dx from lay_in (by simp)]; exact hd') ?_
    refine .cons (.dic (by rw [show B' o = H' o from lay_in (by simp)]; exact ho') (ro.kp (Kp.of sB))) (.cons (.dic (by rw [show B' m = H' m from lay_in (by simp)]; exact hm') ?_) .nil)
    refine rpk_lists P.len fun j l k ns h1 h2 => ?_
    obtain ⟨vs, h3, h4⟩ := P.hl j l k ns h1 h2
    have hl : l ∈ ls := List.mem_of_getElem? h1
    have l1 : l ≠ o := fun z => n9 (z ▸ hl)
    have l2 : l ≠ m := fun z => n10 (z ▸ hl)
    refine .lst ?_ (h4.kp (Kp.of sB))
    rw [show B' l = H' l from lay_in (by simp [hl])]
    show upd (upd H o _) m _ l = _
    rw [upd_ne l2, upd_ne l1]; exact h3
/-- a step that leaves it as it is -/
theorem PlO.go {B2 H2 : Hp} (P : PlO B H x dx o m ls org mad) (g : Go B H B2 H2) : PlO B2 H2 x dx o m ls org mad := by
  obtain ⟨eo, e1, ro⟩ := P.ho
  have ex : ∀ a ∈ plA x dx o m ls, ∃ u, H a = some u := fun a ha => by
    simp only [plA, List.mem_cons] at ha
    rcases ha with rfl | rfl | rfl | rfl | ha
    · exact ⟨_, P.hx⟩
    · exact ⟨_, P.hd⟩
    · exact ⟨_, e1⟩
    · exact ⟨_, P.hm⟩
    · obtain ⟨j, hj, e⟩ := List.getElem_of_mem ha
      have hj2 : j < mad.length := by rw [← P.len]; exact hj
      obtain ⟨vs, h3, _⟩ := P.hl j a mad[j].1 mad[j].2 (by simp [hj, e]) (by simp [hj2])
      exact ⟨_, h3⟩
  refine ⟨g.h _ _ P.hx, g.h _ _ P.hd, ⟨eo, g.h _ _ e1, ro.kp (Kp.of g.b)⟩, g.h _ _ P.hm, P.len, fun j l k ns h1 h2 => ?_, P.nd, fun a ha => ?_⟩
  · obtain ⟨vs, h3, h4⟩ := P.hl j l k ns h1 h2
    exact ⟨vs, g.h _ _ h3, h4.up g⟩
  · obtain ⟨u, e⟩ := ex a ha
    exact g.noB (P.nb a ha) e
/-- a look at it -/
theorem PlO.peek {te : TE} {σ : L2.St} {ob : Option U} {z : U} (P : PlO B H x dx o m ls org mad) (s : Same B H) (h : ∀ B' H', Same B B' → Rp B' (plU org mad) (.ref x) → EvO te σ B' H' ob) (e : ob = some z) (hf : z.flat = true) {Q : VK}
    (q : ∀ v B2 H2, Go B H B2 H2 → Rp B2 z v → Q v H2) : tLockE (tLockE te) σ H Q := by
  obtain ⟨n1, n2, n3, n4, n5, n6, n7, n8, n9, n10⟩ := P.ne
  obtain ⟨eo, eho, ro⟩ := P.ho
  refine ⟨o, _, eho, trivial, fun ood => ⟨m, .dK ((mad.map (·.1)).zip (ls.map V.ref)), (by rw [upd_ne n8.symm]; exact P.hm), trivial, fun mod' => ?_⟩⟩
  obtain ⟨sB, rv⟩ := P.val s ood mod' eho
  refine h _ (upd (upd H o (.frz ood (.dK eo))) m (.frz mod' (.dK ((mad.map (·.1)).zip (ls.map V.ref))))) (P.same _) rv z e _ _ (At.refl sB) _ fun v B2 H2 g2 r2 => ?_
  have inl : ∀ a ∈ plA x dx o m ls, H2 a = upd (upd H o (.frz ood (.dK eo))) m (.frz mod' (.dK ((mad.map (·.1)).zip (ls.map V.ref)))) a := fun a ha => by
    have e1 : ∃ u, upd (upd H o (.frz ood (.dK eo))) m (.frz mod' (.dK ((mad.map (·.1)).zip (ls.map V.ref)))) a = some u := by
      by_cases h1 : a = m
      · subst h1; exact ⟨_, upd_same⟩
      · rw [upd_ne h1]
        by_cases h2 : a = o
        · subst h2; exact ⟨_, upd_same⟩
        · rw [upd_ne h2]
          simp only [plA, List.mem_cons] at ha
          rcases ha with rfl | rfl | rfl | rfl | ha
          · exact ⟨_, P.hx⟩
          · exact ⟨_, P.hd⟩
          · exact absurd rfl h2
          · exact absurd rfl h1
          · obtain ⟨j, hj, e⟩ := List.getElem_of_mem ha
            have hj2 : j < mad.length := by rw [← P.len]; exact hj
            obtain ⟨vs, h3, _⟩ := P.hl j a mad[j].1 mad[j].2 (by simp [hj, e]) (by simp [hj2])
            exact ⟨_, h3⟩
    obtain ⟨u, e1⟩ := e1
    rw [e1]; exact g2.h a u e1
  have em : H2 m = some (.frz mod' (.dK ((mad.map (·.1)).zip (ls.map V.ref)))) := by rw [inl m (by simp), upd_same]
  have eo2 : H2 o = some (.frz ood (.dK eo)) := by rw [inl o (by simp), upd_ne n8, upd_same]
  refine ⟨em, by rw [upd_ne n8]; exact eo2, ?_⟩
  refine q v (fun a => if a ∈ plA x dx o m ls then none else B2 a) _ ⟨fun a u ha => ?_, fun a u ha => ?_, fun a u ha => ?_, fun a u ha => ?_⟩ (r2.flat hf)
  · by_cases h1 : a = o
    · subst h1; rw [upd_same, ← eho]; exact ha
    · rw [upd_ne h1]
      by_cases h2 : a = m
      · subst h2; rw [upd_same, ← P.hm]; exact ha
      · rw [upd_ne h2]
        exact g2.h a u (by rw [upd_ne h2, upd_ne h1]; exact ha)
  · have hn : a ∉ plA x dx o m ls := fun z => by rw [P.nb a z] at ha; cases ha
    show (if a ∈ plA x dx o m ls then none else B2 a) = some u
    rw [if_neg hn]
    exact g2.b a u (by rw [lay_out hn]; exact ha)
  · have hn : a ∉ plA x dx o m ls := fun z => by
      have : (if a ∈ plA x dx o m ls then none else B2 a) = some u := ha
      rw [if_pos z] at this; cases this
    have ha : B2 a = some u := by
      have : (if a ∈ plA x dx o m ls then none else B2 a) = some u := ha
      rwa [if_neg hn] at this
    rw [upd_ne (fun z => hn (by simp [z])), upd_ne (fun z => hn (by simp [z]))]
    exact g2.bh a u ha
  · have hn : a ∉ plA x dx o m ls := fun z => by
      have : (if a ∈ plA x dx o m ls then none else B2 a) = some u := ha
      rw [if_pos z] at this; cases this
    have ha : B2 a = some u := by
      have : (if a ∈ plA x dx o m ls then none else B2 a) = some u := ha
      rwa [if_neg hn] at this
    rcases g2.fr a u ha with z | z
    · rw [lay_out hn] at z; exact .inl z
    · rw [upd_ne (fun z => hn (by simp [z])), upd_ne (fun z => hn (by simp [z]))] at z; exact .inr z
/-- a test that looks at it -/
theorem PlO.peekT {t : TT} {σ : L2.St} {ob : Option Bool} {z : Bool} (P : PlO B H x dx o m ls org mad) (s : Same B H) (h : ∀ B' H', Same B B' → Rp B' (plU org mad) (.ref x) → EvT t σ B' H' ob) (e : ob = some z) {Q : Bool → Hp → Prop}
    (q : ∀ B2 H2, Go B H B2 H2 → Q z H2) : tLockT (tLockT t) σ H Q := by
  obtain ⟨n1, n2, n3, n4, n5, n6, n7, n8, n9, n10⟩ := P.ne
  obtain ⟨eo, eho, ro⟩ := P.ho
  refine ⟨o, _, eho, trivial, fun ood => ⟨m, .dK ((mad.map (·.1)).zip (ls.map V.ref)), (by rw [upd_ne n8.symm]; exact P.hm), trivial, fun mod' => ?_⟩⟩
  obtain ⟨sB, rv⟩ := P.val s ood mod' eho
  refine h _ (upd (upd H o (.frz ood (.dK eo))) m (.frz mod' (.dK ((mad.map (·.1)).zip (ls.map V.ref))))) (P.same _) rv z e _ _ (At.refl sB) _ fun B2 H2 g2 => ?_
  have inl : ∀ a ∈ plA x dx o m ls, H2 a = upd (upd H o (.frz ood (.dK eo))) m (.frz mod' (.dK ((mad.map (·.1)).zip (ls.map V.ref)))) a := fun a ha => by
    have e1 : ∃ u, upd (upd H o (.frz ood (.dK eo))) m (.frz mod' (.dK ((mad.map (·.1)).zip (ls.map V.ref)))) a = some u := by
      by_cases h1 : a = m
      · subst h1; exact ⟨_, upd_same⟩
      · rw [upd_ne h1]
        by_cases h2 : a = o
        · subst h2; exact ⟨_, upd_same⟩
        · rw [upd_ne h2]
          simp only [plA, List.mem_cons] at ha
          rcases ha with rfl | rfl | rfl | rfl | ha
          · exact ⟨_, P.hx⟩
          · exact ⟨_, P.hd⟩
          · exact absurd rfl h2
          · exact absurd rfl h1
          · obtain ⟨j, hj, e⟩ := List.getElem_of_mem ha
            have hj2 : j < mad.length := by rw [← P.len]; exact hj
            obtain ⟨vs, h3, _⟩ := P.hl j a mad[j].1 mad[j].2 (by simp [hj, e]) (by simp [hj2])
            exact ⟨_, h3⟩
    obtain ⟨u, e1⟩ := e1
    rw [e1]; exact g2.h a u e1
  have em : H2 m = some (.frz mod' (.dK ((mad.map (·.1)).zip (ls.map V.ref)))) := by rw [inl m (by simp), upd_same]
  have eo2 : H2 o = some (.frz ood (.dK eo)) := by rw [inl o (by simp), upd_ne n8, upd_same]
  refine ⟨em, by rw [upd_ne n8]; exact eo2, ?_⟩
  refine q (fun a => if a ∈ plA x dx o m ls then none else B2 a) _ ⟨fun a u ha => ?_, fun a u ha => ?_, fun a u ha => ?_, fun a u ha => ?_⟩
  · by_cases h1 : a = o
    · subst h1; rw [upd_same, ← eho]; exact ha
    · rw [upd_ne h1]
      by_cases h2 : a = m
      · subst h2; rw [upd_same, ← P.hm]; exact ha
      · rw [upd_ne h2]
        exact g2.h a u (by rw [upd_ne h2, upd_ne h1]; exact ha)
  · have hn : a ∉ plA x dx o m ls := fun z => by rw [P.nb a z] at ha; cases ha
    show (if a ∈ plA x dx o m ls then none else B2 a) = some u
    rw [if_neg hn]
    exact g2.b a u (by rw [lay_out hn]; exact ha)
  · have hn : a ∉ plA x dx o m ls := fun z => by
      have : (if a ∈ plA x dx o m ls then none else B2 a) = some u := ha
      rw [if_pos z] at this; cases this
    have ha : B2 a = some u := by
      have : (if a ∈ plA x dx o m ls then none else B2 a) = some u := ha
      rwa [if_neg hn] at this
    rw [upd_ne (fun z => hn (by simp [z])), upd_ne (fun z => hn (by simp [z]))]
    exact g2.bh a u ha
  · have hn : a ∉ plA x dx o m ls := fun z => by
      have : (if a ∈ plA x dx o m ls then none else B2 a) = some u := ha
      rw [if_pos z] at this; cases this
    have ha : B2 a = some u := by
      have : (if a ∈ plA x dx o m ls then none else B2 a) = some u := ha
      rwa [if_neg hn] at this
    rcases g2.fr a u ha with z | z
    · rw [lay_out hn] at z; exact .inl z
    · rw [upd_ne (fun z => hn (by simp [z])), upd_ne (fun z => hn (by simp [z]))] at z; exact .inr z
end
end Dn
set_option Elab.async false
set_option linter.all false
set_option maxRecDepth 100000
set_option maxHeartbeats 2000000
namespace Dn
open PySem L2
variable [CTab]
/-! ### tests that look at it -/
def EvTG (tt : TT) (σ : L2.St) (B H : Hp) (o : Option Bool) : Prop :=
  ∀ z, o = some z → ∀ B1 H1, Go B H B1 H1 → ∀ Q : Bool → Hp → Prop, (∀ B2 H2, Go B1 H1 B2 H2 → Q z H2) → tt σ H1 Q
section
variable {σ : L2.St} {B H : Hp} {x dx o m : Addr} {ls : List Addr} {org : List (Key × U)} {mad : List (Key × List U)} {te : TE} {t u : TT} {K : PySem.W.Frag}
theorem etg_peek {ob : Option U} (P : PlO B H x dx o m ls org mad) (h : ∀ B' H', Same B B' → Rp B' (plU org mad) (.ref x) → EvO te σ B' H' ob) : EvTG (tB (tLockE (tLockE te))) σ B H (testO ob) := fun z e B1 H1 g Q q => by
  obtain ⟨y, ey, e⟩ := bind_some e
  cases y <;> cases e
  exact (P.go g).peek g.bh (fun B' H' s r => h B' H' (g.b.trans s) r) ey rfl fun v B2 H2 g2 r2 => by cases r2; exact ⟨_, rfl, q B2 H2 g2⟩
theorem etg_peekT {ob : Option Bool} (P : PlO B H x dx o m ls org mad) (h : ∀ B' H', Same B B' → Rp B' (plU org mad) (.ref x) → EvT t σ B' H' ob) : EvTG (tLockT (tLockT t)) σ B H ob := fun z e B1 H1 g Q q =>
  (P.go g).peekT g.bh (fun B' H' s r => h B' H' (g.b.trans s) r) e fun B2 H2 g2 => q B2 H2 g2
theorem etg_or {a b : Option Bool} (h1 : EvTG t σ B H a) (h2 : EvTG u σ B H b) : EvTG (tOr t u) σ B H (orO a b) := fun z e B1 H1 g Q q => by
  obtain ⟨x, ex, e⟩ := bind_some e
  refine h1 x ex B1 H1 g _ fun B2 H2 g2 => ?_
  cases x with
  | false => exact h2 z e B2 H2 (g.trans g2) Q fun B3 H3 g3 => q B3 H3 (g2.trans g3)
  | true => cases e; exact q B2 H2 g2
theorem etg_not {a : Option Bool} (h1 : EvTG t σ B H a) : EvTG (tNot t) σ B H (notO a) := fun z e B1 H1 g _ q => by
  obtain ⟨x, ex, e⟩ := map_some e
  subst e
  exact h1 x ex B1 H1 g _ fun B2 H2 g2 => q B2 H2 g2
theorem q_ifG {α : Type} {c : Option Bool} {m1 m2 : Option α} {r : α} {tu tw tz : TS} {D : Ends} (s : Same B H) (h : EvTG t σ B H c) (e : ifO c m1 m2 = some r) (h1 : m1 = some r → ∀ B1 H1, Go B H B1 H1 → tu { D with nx := tz D } σ H1) (h2 : m2 = some r → ∀ B1 H1, Go B H B1 H1 → tw { D with nx := tz D } σ H1) :
    tSeq (tIfS t tu tw) tz D σ H := by
  obtain ⟨x, ex, e⟩ := bind_some e
  refine h x ex B H (Go.refl s) _ fun B2 H2 g2 => ?_
  cases x with
  | true => exact h1 e B2 H2 g2
  | false => exact h2 e B2 H2 g2
/-! ### changes -/
theorem PlO.mem (P : PlO B H x dx o m ls org mad) {a : Addr} (ha : a ∈ plA x dx o m ls) : ∃ u, H a = some u := by
  obtain ⟨eo, e1, ro⟩ := P.ho
  simp only [plA, List.mem_cons] at ha
  rcases ha with rfl | rfl | rfl | rfl | ha
  · exact ⟨_, P.hx⟩
  · exact ⟨_, P.hd⟩
  · exact ⟨_, e1⟩
  · exact ⟨_, P.hm⟩
  · obtain ⟨j, hj, e⟩ := List.getElem_of_mem ha
    have hj2 : j < mad.length := by rw [← P.len]; exact hj
    obtain ⟨vs, h3, _⟩ := P.hl j a mad[j].1 mad[j].2 (by simp [hj, e]) (by simp [hj2])
    exact ⟨_, h3⟩
/-- what may change: the object's parts -/
abbrev plM (x dx o m : Addr) (ls : List Addr) : Addr → Prop := fun a => a ∈ plA x dx o m ls
theorem gs_one {M : Addr → Prop} {p : Addr} {u : HO} (s : Same B H) (hb : B p = none) (hM : M p) : Gs M B H B (upd H p u) :=
  ⟨fun a v e hm => by rw [upd_ne (fun z => hm (by rw [z]; exact hM))]; exact e, fun a e => by
      by_cases ha : a = p
      · subst ha; rw [upd_same] at e; cases e
      · rw [upd_ne ha] at e; exact e, Same.refl _, same_upd s hb, fun a v e => .inl e⟩
theorem PlO.setO {k : Key} {t : U} {v : V} {eo : List (Key × V)} (P : PlO B H x dx o m ls org mad) (e : H o = some (.dK eo)) (r : Rp B t v) : PlO B (upd H o (.dK (putK eo k v))) x dx o m ls (putU org k t) mad := by
  obtain ⟨n1, n2, n3, n4, n5, n6, n7, n8, n9, n10⟩ := P.ne
  obtain ⟨eo', e1, ro⟩ := P.ho
  rw [e] at e1; cases e1
  refine ⟨by rw [upd_ne n2]; exact P.hx, by rw [upd_ne n5]; exact P.hd, ⟨_, upd_same, ro.put r k⟩, by rw [upd_ne n8.symm]; exact P.hm, P.len, fun j l k' ns h1 h2 => ?_, P.nd, P.nb⟩
  obtain ⟨vs, h3, h4⟩ := P.hl j l k' ns h1 h2
  exact ⟨vs, by rw [upd_ne (mem_ne (List.mem_of_getElem? h1) n9)]; exact h3, h4⟩
theorem zip_map_append {α β : Type} : ∀ (ks : List α) (ls : List β), ks.length = ls.length → ∀ k l, (ks ++ [k]).zip (ls ++ [l]) = ks.zip ls ++ [(k, l)]
  | [], [], _, _, _ => rfl
  | a :: ks, b :: ls, h, k, l => by
    have := zip_map_append ks ls (by simpa using h) k l
    simp [this]
  | [], _ :: _, h, _, _ => by simp at h
  | _ :: _, [], h, _, _ => by simp at h
theorem any_zip {ks : List Key} {vs : List V} (h : ks.length = vs.length) (k : Key) : ((ks.zip vs).any fun kv => decide (kv.1 = k)) = ks.any fun x => decide (x = k) := by
  induction ks generalizing vs with
  | nil => simp
  | cons a ks ih =>
    cases vs with
    | nil => simp at h
    | cons b vs => simp only [List.zip_cons_cons, List.any_cons]; rw [ih (by simpa using h)]
theorem PlO.setM {k : Key} {p : Addr} (P : PlO B H x dx o m ls org mad) (s : Same B H) (hp : H p = none) (hk : (mad.any fun km => decide (km.1 = k)) = false) :
    PlO B (upd (upd H p (.lst [])) m (.dK (putK ((mad.map (·.1)).zip (ls.map V.ref)) k (.ref p)))) x dx o m (ls ++ [p]) org (mad ++ [(k, [])]) := by
  obtain ⟨n1, n2, n3, n4, n5, n6, n7, n8, n9, n10⟩ := P.ne
  obtain ⟨eo, e1, ro⟩ := P.ho
  have np : ∀ a ∈ plA x dx o m ls, a ≠ p := fun a ha z => by
    obtain ⟨u, e⟩ := P.mem ha
    rw [z, hp] at e; cases e
  have hput : putK ((mad.map (·.1)).zip (ls.map V.ref)) k (V.ref p) = ((mad ++ [(k, ([] : List U))]).map (·.1)).zip ((ls ++ [p]).map V.ref) := by
    unfold putK
    rw [any_zip (by simp [P.len]), List.any_map]
    have : (mad.any ((fun x => decide (x = k)) ∘ fun x => x.1)) = false := hk
    rw [this, if_neg (by decide), List.map_append, List.map_append]
    exact (zip_map_append _ _ (by simp [P.len]) _ _).symm
  rw [hput]
  refine ⟨by rw [upd_ne n3, upd_ne (np x (by simp))]; exact P.hx, by rw [upd_ne n6, upd_ne (np dx (by simp))]; exact P.hd, ⟨eo, by rw [upd_ne n8, upd_ne (np o (by simp))]; exact e1, ro⟩, upd_same, by simp [P.len], fun j l k' ns h1 h2 => ?_, ?_, fun a ha => ?_⟩
  · by_cases hj : j < ls.length
    · rw [List.getElem?_append_left hj] at h1
      rw [List.getElem?_append_left (by rw [← P.len]; exact hj)] at h2
      obtain ⟨vs, h3, h4⟩ := P.hl j l k' ns h1 h2
      have hl : l ∈ ls := List.mem_of_getElem? h1
      exact ⟨vs, by rw [upd_ne (mem_ne hl n10), upd_ne (np l (by simp [hl]))]; exact h3, h4⟩
    · rw [List.getElem?_append_right (by omega)] at h1
      rw [List.getElem?_append_right (by rw [← P.len]; omega)] at h2
      have e : j - ls.length = 0 := by
        have := (List.getElem?_eq_some_iff.mp h1).1
        simp at this; omega
      rw [e] at h1
      rw [← P.len, e] at h2
      cases h1; cases h2
      exact ⟨[], by rw [upd_ne (Ne.symm (np m (by simp))), upd_same], .nil⟩
  · have : plA x dx o m (ls ++ [p]) = plA x dx o m ls ++ [p] := rfl
    rw [this, List.nodup_append]
    exact ⟨P.nd, by simp, fun a ha b hb => by simp at hb; subst hb; exact np a ha⟩
  · have : a ∈ plA x dx o m ls ++ [p] := ha
    rcases List.mem_append.mp this with h | h
    · exact P.nb a h
    · simp at h; subst h; exact s.free hp
/-- the list under a key -/
def appM (mad : List (Key × List U)) (k : Key) (y : U) : List (Key × List U) := match mad with
  | [] => []
  | km :: r => if km.1 = k then (km.1, km.2 ++ [y]) :: r else km :: appM r k y
def getM (mad : List (Key × List U)) (k : Key) : Option (List U) := match mad with
  | [] => none
  | km :: r => if km.1 = k then some km.2 else getM r k
theorem getM_at {k : Key} : ∀ {mad : List (Key × List U)} {ns : List U} {ls : List Addr}, getM mad k = some ns → ls.length = mad.length → ∃ (j : Nat) (l : Addr), ls[j]? = some l ∧ mad[j]? = some (k, ns) ∧ valV ((mad.map (·.1)).zip (ls.map V.ref)) k = some (.ref l) ∧ ∀ y, appM mad k y = mad.set j (k, ns ++ [y])
  | [], ns, ls, h, _ => by cases h
  | (k', ms) :: mad, ns, [], h, hl => by simp at hl
  | (k', ms) :: mad, ns, l :: ls, h, hl => by
    unfold getM at h
    split at h
    · rename_i e
      cases h
      have e : k' = k := e
      subst e
      exact ⟨0, l, rfl, rfl, by simp [valV], fun y => by simp [appM]⟩
    · rename_i e
      have e : ¬ k' = k := e
      obtain ⟨j, l', h1, h2, h3, h4⟩ := getM_at (ls := ls) h (by simpa using hl)
      refine ⟨j + 1, l', by simpa using h1, by simpa using h2, ?_, fun y => by simp [appM, e, h4 y]⟩
      have : valV (((k', ms) :: mad).map (·.1) |>.zip ((l :: ls).map V.ref)) k = valV ((mad.map (·.1)).zip (ls.map V.ref)) k := by simp [valV, e]
      rw [this]; exact h3
theorem PlO.app {j : Nat} {l : Addr} {k : Key} {ns : List U} {y : U} {v : V} {vs : List V} (P : PlO B H x dx o m ls org mad) (h1 : ls[j]? = some l) (h2 : mad[j]? = some (k, ns)) (e : H l = some (.lst vs)) (rv : Rps B ns vs) (r : Rp B y v) :
    PlO B (upd H l (.lst (vs ++ [v]))) x dx o m ls org (mad.set j (k, ns ++ [y])) := by
  obtain ⟨n1, n2, n3, n4, n5, n6, n7, n8, n9, n10⟩ := P.ne
  obtain ⟨eo, e1, ro⟩ := P.ho
  have hl : l ∈ ls := List.mem_of_getElem? h1
  have hj : j < mad.length := (List.getElem?_eq_some_iff.mp h2).1
  have hk : (mad.set j (k, ns ++ [y])).map (·.1) = mad.map (·.1) := by
    rw [List.map_set]
    have : (mad.map (·.1))[j]? = some k := by rw [List.getElem?_map, h2]; rfl
    obtain ⟨hj', ej⟩ := List.getElem?_eq_some_iff.mp this
    show (mad.map (·.1)).set j k = mad.map (·.1)
    rw [← ej, List.set_getElem_self]
  refine ⟨by rw [upd_ne (mem_ne hl n4).symm]; exact P.hx, by rw [upd_ne (mem_ne hl n7).symm]; exact P.hd, ⟨eo, by rw [upd_ne (mem_ne hl n9).symm]; exact e1, ro⟩, by rw [hk, upd_ne (mem_ne hl n10).symm]; exact P.hm, by rw [List.length_set]; exact P.len, fun j' l' k' ns' a1 a2 => ?_, P.nd, P.nb⟩
  by_cases hjj : j' = j
  · subst hjj
    rw [h1] at a1; cases a1
    rw [List.getElem?_set_self hj] at a2; cases a2
    exact ⟨_, upd_same, rv.append (.one r)⟩
  · rw [List.getElem?_set_ne (Ne.symm hjj)] at a2
    obtain ⟨vs', h3, h4⟩ := P.hl j' l' k' ns' a1 a2
    have hne : l' ≠ l := fun z => by
      subst z
      obtain ⟨b1, c1⟩ := List.getElem?_eq_some_iff.mp a1
      obtain ⟨b2, c2⟩ := List.getElem?_eq_some_iff.mp h1
      exact hjj ((List.getElem_inj P.ndl).mp (c1.trans c2.symm))
    exact ⟨vs', by rw [upd_ne hne]; exact h3, h4⟩
/-! ### the statements of put -/
theorem q_putO {tv ty : TE} {tz : TS} {D : Ends} {t : U} {k : Key} (P : PlO B H x dx o m ls org mad) (s : Same B H) (c : Cls K (CTab.ct 0)) (na : NoAttr K (CTab.ct 0) "origins") (hv : σ[0]? = some (some (.ref x))) (h1 : EvO tv σ B H (some t)) (h2 : EvO ty σ B H (some (kU k))) (hl : org.length < lim)
    (kk : ∀ B1 H1, Gs (plM x dx o m ls) B H B1 H1 → PlO B1 H1 x dx o m ls (putU org k t) mad → tz D σ H1) : tSeq (sDPut (tFld K (tVar 0) "origins") ty tv) tz D σ H := by
  refine h1 t rfl B H (At.refl s) _ fun v B1 H1 g1 r1 => ⟨_, hv, x, _, dx, _, .ref o, rfl, (P.go g1).hx, c, na, rfl, h2 _ rfl B1 H1 g1 _ fun kv B2 H2 g2 r2 => ?_⟩
  have P2 := (P.go g1).go g2
  obtain ⟨eo, e1, ro⟩ := P2.ho
  have ek : kv = kV k := r2.key (by cases k <;> rfl)
  refine ⟨o, _, rfl, .inl ⟨eo, k, e1, ek, lim_lt (by rw [ro.length]; exact Nat.le_of_lt hl), rfl⟩, kk B2 _ ?_ (P2.setO e1 (r1.up g2))⟩
  exact (Gs.of (g1.trans g2)).trans (gs_one g2.bh (P2.nb o (by simp)) (by simp [plM]))
theorem q_putM {ty : TE} {tz : TS} {D : Ends} {k : Key} (P : PlO B H x dx o m ls org mad) (s : Same B H) (c : Cls K (CTab.ct 0)) (na : NoAttr K (CTab.ct 0) "made") (hv : σ[0]? = some (some (.ref x))) (h2 : EvO ty σ B H (some (kU k))) (hl : mad.length < lim) (hk : (mad.any fun km => decide (km.1 = k)) = false)
    (kk : ∀ p B1 H1, H p = none → Gs (plM x dx o m ls) B H B1 H1 → PlO B1 H1 x dx o m (ls ++ [p]) org (mad ++ [(k, [])]) → tz D σ H1) : tSeq (sDPut (tFld K (tVar 0) "made") ty (tLst tNil)) tz D σ H := by
  refine ⟨by show (0 : Nat) ≤ sizeLine; decide, fun p hp => ?_⟩
  have g0 : Go B H B (upd H p (.lst [])) := Go.own s hp
  have P0 := P.go g0
  refine ⟨_, hv, x, _, dx, _, .ref m, rfl, P0.hx, c, na, rfl, h2 _ rfl B _ g0 _ fun kv B2 H2 g2 r2 => ?_⟩
  have ek : kv = kV k := r2.key (by cases k <;> rfl)
  have hpm : ∀ a ∈ plA x dx o m ls, a ≠ p := fun a ha z => by
    obtain ⟨u, e⟩ := P.mem ha
    rw [z, hp] at e; cases e
  have P2 := P0.go g2
  have hB2p : B2 p = none := g2.noB (s.free hp) upd_same
  have hH2p : H2 p = some (.lst []) := g2.h _ _ upd_same
  obtain ⟨n1, n2, n3, n4, n5, n6, n7, n8, n9, n10⟩ := P.ne
  refine ⟨m, _, rfl, .inl ⟨_, k, P2.hm, ek, lim_lt ?_, rfl⟩, kk p B2 _ hp ?_ ?_⟩
  · simp only [List.length_zip, List.length_map]
    have := P.len
    omega
  · exact (Gs.of (g0.trans g2)).trans (gs_one g2.bh (P2.nb m (by simp)) (by simp [plM]))
  · -- the heap H2 has p already: lay it as setM does
    have e0 : H2 = upd (fun a => if a = p then none else H2 a) p (.lst []) := by
      funext a
      by_cases ha : a = p
      · subst ha; rw [upd_same, hH2p]
      · rw [upd_ne ha]; simp [ha]
    have P3 : PlO B2 (fun a => if a = p then none else H2 a) x dx o m ls org mad := by
      obtain ⟨eo, e1, ro⟩ := P2.ho
      have f : ∀ a ∈ plA x dx o m ls, (if a = p then none else H2 a) = H2 a := fun a ha => if_neg (hpm a ha)
      refine ⟨by rw [f x (by simp)]; exact P2.hx, by rw [f dx (by simp)]; exact P2.hd, ⟨eo, by rw [f o (by simp)]; exact e1, ro⟩, by rw [f m (by simp)]; exact P2.hm, P2.len, fun j l k' ns a1 a2 => ?_, P2.nd, P2.nb⟩
      obtain ⟨vs, a3, a4⟩ := P2.hl j l k' ns a1 a2
      exact ⟨vs, by rw [f l (by simp [List.mem_of_getElem? a1])]; exact a3, a4⟩
    have s3 : Same B2 (fun a => if a = p then none else H2 a) := fun a u e => by
      show (if a = p then none else H2 a) = some u
      rw [if_neg (fun z => by rw [z, hB2p] at e; cases e)]; exact g2.bh a u e
    have := P3.setM (k := k) s3 (p := p) (by simp) hk
    rw [← e0] at this
    exact this
theorem q_appM {tw te : TE} {tz : TS} {D : Ends} {k : Key} {y : U} {ns : List U} (P : PlO B H x dx o m ls org mad) (s : Same B H) (c : Cls K (CTab.ct 0)) (na : NoAttr K (CTab.ct 0) "made") (hv : σ[0]? = some (some (.ref x))) (h1 : EvO tw σ B H (some (kU k))) (h2 : EvO te σ B H (some y)) (hg : getM mad k = some ns) (hl : ns.length < lim)
    (kk : ∀ B1 H1, Gs (plM x dx o m ls) B H B1 H1 → PlO B1 H1 x dx o m ls org (appM mad k y) → tz D σ H1) : tSeq (tDrop (tBM K "list" rAppend (tOp (rIxA K) (tFld K (tVar 0) "made") tw) (tCons te tNil))) tz D σ H := by
  refine ⟨_, hv, x, _, dx, _, .ref m, rfl, P.hx, c, na, rfl, h1 _ rfl B H (At.refl s) _ fun kv B1 H1 g1 r1 => ?_⟩
  have ek : kv = kV k := r1.key (by cases k <;> rfl)
  subst ek
  obtain ⟨j, l, a1, a2, a3, a4⟩ := getM_at hg P.len
  have P1 := P.go g1
  obtain ⟨vs, a5, a6⟩ := P1.hl j l k ns a1 a2
  refine .inr ⟨m, .ref l, rfl, .inl ⟨_, k, .inl P1.hm, rfl, a3.symm⟩, .inl ⟨rfl, vs, SqL.of a5⟩, h2 y rfl B1 H1 g1 _ fun v B2 H2 g2 r2 => ?_⟩
  have P2 := P1.go g2
  obtain ⟨vs2, b5, b6⟩ := P2.hl j l k ns a1 a2
  refine ⟨l, vs2, v, rfl, rfl, b5, lim_lt (by rw [b6.length]; exact Nat.le_of_lt hl), ?_⟩
  have hm : l ∈ plA x dx o m ls := by simp [List.mem_of_getElem? a1]
  have P3 := P2.app a1 a2 b5 b6 r2
  rw [← a4 y] at P3
  exact kk B2 _ ((Gs.of (g1.trans g2)).trans (gs_one g2.bh (P2.nb l hm) hm)) P3
end
end Dn
set_option Elab.async false
set_option linter.all false
set_option maxRecDepth 100000
set_option maxHeartbeats 2000000
namespace Dn
open PySem L2
variable [CTab]
def addsM (w0 : U) : List (Key × List U) → List U → Option (List (Key × List U))
  | mad, [] => some mad
  | mad, w :: r => w.key.bind fun k => (getM mad k).bind fun ns => if ns.length < lim then addsM w0 (appM mad k w0) r else none
def putP (t1 t2 : Option Bool) (org : List (Key × U)) (mad : List (Key × List U)) (w0 : U) (rest : List U) : Option (Bool × List (Key × U) × List (Key × List U)) :=
  ifO t1 (some (false, org, mad)) (ifO t2 (some (false, org, mad)) (w0.key.bind fun k => if (org.length < lim ∧ mad.length < lim) ∧ (mad.any fun km => decide (km.1 = k)) = false then
    (addsM w0 (mad ++ [(k, [])]) rest).map fun mad' => (true, putU org k (.tup rest), mad') else none))
theorem key_kU {u : U} {k : Key} (h : u.key = some k) : u = kU k := by
  cases u <;> cases h <;> rfl
section
variable {B H : Hp} {x dx o m : Addr} {ls : List Addr} {org org' : List (Key × U)} {mad mad' : List (Key × List U)} {K : PySem.W.Frag} {t1 t2 : Option Bool} {c1 c2 : TT} {tk tt : TE} {wi : TI} {w0 : U} {rest : List U} {b : Bool} {wv : V} {Q : VK} {nx : L2.St → Hp → Prop}
theorem put_reads (c : Cls K (CTab.ct 0)) (no : NoAttr K (CTab.ct 0) "origins") (nm : NoAttr K (CTab.ct 0) "made") (P : PlO B H x dx o m ls org mad) (s : Same B H)
    (h1 : EvTG c1 [some (.ref x), some wv, none] B H t1) (h2 : ∀ B1 H1, Go B H B1 H1 → EvTG c2 [some (.ref x), some wv, none] B1 H1 t2)
    (hk : ∀ ow B' H', Same B B' → EvO tk [some (.ref x), some wv, ow] B' H' (some w0)) (ht : ∀ B' H', Same B B' → EvO tt [some (.ref x), some wv, none] B' H' (some (.tup rest)))
    (hi : ∀ B' H', Same B B' → EvI wi [some (.ref x), some wv, none] B' H' (some rest)) (hm : putP t1 t2 org mad w0 rest = some (b, org', mad'))
    (kQ : ∀ B2 H2 ls2, Gs (plM x dx o m ls) B H B2 H2 → (∀ l ∈ ls2, l ∈ ls ∨ H l = none) → PlO B2 H2 x dx o m ls2 org' mad' → Q (.bl b) H2) :
    tSeq (tIfS c1 (tSeq (tRet (tC (.bl false))) tNext) tNext) (tSeq (tIfS c2 (tSeq (tRet (tC (.bl false))) tNext) tNext) (tSeq (sDPut (tFld K (tVar 0) "origins") tk tt) (tSeq (sDPut (tFld K (tVar 0) "made") tk (tLst tNil))
      (tSeq (tFor wi (gName 2) (tSeq (tDrop (tBM K "list" rAppend (tOp (rIxA K) (tFld K (tVar 0) "made") (tVar 2)) (tCons tk tNil))) tNext)) (tSeq (tRet (tC (.bl true))) tNext))))) { nx := nx, rt := Q } [some (.ref x), some wv, none] H := by
  refine q_ifG s h1 hm (fun e B1 H1 g1 => ?_) fun e B1 H1 g1 => ?_
  · cases e
    exact kQ B1 H1 ls (.of g1) (fun l hl => .inl hl) (P.go g1)
  · refine q_ifG g1.bh (h2 B1 H1 g1) e (fun e B2 H2 g2 => ?_) fun e B2 H2 g2 => ?_
    · cases e
      exact kQ B2 H2 ls (.of (g1.trans g2)) (fun l hl => .inl hl) ((P.go g1).go g2)
    · obtain ⟨k, ek, e⟩ := bind_some e
      split at e
      · rename_i hl
        obtain ⟨⟨l1, l2⟩, l3⟩ := hl
        obtain ⟨madF, em, e⟩ := map_some e
        cases e
        have e0 := key_kU ek
        subst e0
        have g12 := g1.trans g2
        have P2 := P.go g12
        refine q_putO P2 g2.bh c no rfl (ht B2 H2 g12.b) (hk none B2 H2 g12.b) l1 fun B3 H3 g3 P3 => ?_
        refine q_putM P3 g3.bh c nm rfl (hk none B3 H3 (g12.b.trans g3.b)) l2 l3 fun p B4 H4 hp g4 P4 => ?_
        have sB4 : Same B B4 := (g12.b.trans g3.b).trans g4.b
        have g04 : Gs (plM x dx o m ls) B H B4 H4 := ((Gs.of g12).trans g3).trans g4
        have hp0 : H p = none := (Gs.n (M := plM x dx o m ls) ((Gs.of g12).trans g3) p hp)
        have hls : ∀ l ∈ ls ++ [p], l ∈ ls ∨ H l = none := fun l hl => by
          rcases List.mem_append.mp hl with h | h
          · exact .inl h
          · simp at h; subst h; exact .inr hp0
        refine q_for g4.bh (hi B4 H4 sB4) rfl fun B5 H5 g5 => ?_
        refine ⟨fun l σ' B' H' => ∃ (ow : Option V) (md : List (Key × List U)), σ' = [some (.ref x), some wv, ow] ∧ Gs (plM x dx o m ls) B H B' H' ∧ Same B5 B' ∧ PlO B' H' x dx o m (ls ++ [p]) (putU org k (.tup rest)) md ∧ addsM (kU k) md l = some mad', ?_, ?_, ?_, ?_⟩
        · exact ⟨none, _, rfl, g04.trans (.of g5), Same.refl _, P4.go g5, em⟩
        · rintro l σ' B' H' ⟨ow, md, _, g', sb, _⟩
          exact ⟨sb, g'.bh⟩
        · rintro u l v σ' B' H' B'' H'' ⟨ow, md, rfl, g', sb, P', ha⟩ gq rq
          obtain ⟨ku, eku, ha2⟩ := bind_some ha
          obtain ⟨ns, ens, ha3⟩ := bind_some ha2
          clear ha ha2
          split at ha3
          · rename_i hns
            have eu := key_kU eku
            subst eu
            have sB'' : Same B B'' := ((g5.b.trans sb).trans gq.b) |> (sB4.trans ·)
            show tSeq _ tNext _ ([some (V.ref x), some wv, ow].set 2 (some v)) H''
            refine q_appM (P'.go gq) gq.bh c nm rfl (eo_var rfl rq) (hk (some v) B'' H'' sB'') ens hns fun B6 H6 g6 P6 => ?_
            refine ⟨B6, some v, _, rfl, ?_, (sb.trans gq.b).trans g6.b, P6, ha3⟩
            refine (g'.trans (.of gq)).base g6 fun a hA => ?_
            have hA : a ∈ plA x dx o m ls ++ [p] := hA
            rcases List.mem_append.mp hA with h | h
            · exact .inl h
            · simp at h; subst h; exact .inr hp0
          · cases ha3
        · rintro σ' B' H' ⟨ow, md, rfl, g', sb, P', ha⟩
          cases ha
          exact kQ B' H' _ g' hls P'
      · cases e
end
/-- the promise of put -/
def spPut (mp : List (Key × U) → List (Key × List U) → U → Option (Bool × List (Key × U) × List (Key × List U))) : Sp := fun vs H Q _ => ∃ B x dx o m ls org mad wv words b org' mad', Same B H ∧ vs = [.ref x, wv] ∧ PlO B H x dx o m ls org mad ∧ Rp B words wv ∧
  mp org mad words = some (b, org', mad') ∧ ∀ B2 H2 ls2, Gs (plM x dx o m ls) B H B2 H2 → (∀ l ∈ ls2, l ∈ ls ∨ H l = none) → PlO B2 H2 x dx o m ls2 org' mad' → Q (.bl b) H2
/-- .. of __init__ -/
def spInit : Sp := fun vs H Q _ => ∃ B x dx, Same B H ∧ vs = [.ref x] ∧ H x = some (.ins (CTab.ct 0) dx []) ∧ H dx = some (.own x) ∧ x ≠ dx ∧ B x = none ∧ B dx = none ∧
  ∀ B2 H2 o m, Gs (fun a => a = x) B H B2 H2 → H o = none → H m = none → PlO B2 H2 x dx o m [] [] [] → Q .non H2
theorem init_reads {B H : Hp} {x dx : Addr} {K : PySem.W.Frag} {Q : VK} (c : Cls K (CTab.ct 0)) (no : NoAttr K (CTab.ct 0) "origins") (nm : NoAttr K (CTab.ct 0) "made") (s : Same B H) (hx : H x = some (.ins (CTab.ct 0) dx [])) (hd : H dx = some (.own x)) (hne : x ≠ dx) (bx : B x = none) (bd : B dx = none)
    (k : ∀ B2 H2 o m, Gs (fun a => a = x) B H B2 H2 → H o = none → H m = none → PlO B2 H2 x dx o m [] [] [] → Q .non H2) :
    tSeq (sFld K (tVar 0) tDNewK "origins") (tSeq (sFld K (tVar 0) tDNewK "made") tNext) { nx := fun _ H' => Q .non H', rt := Q } [some (.ref x)] H := by
  intro o ho
  have nxo : x ≠ o := ne_of_none hx ho
  have ndo : dx ≠ o := ne_of_none hd ho
  refine ⟨_, rfl, x, _, dx, [], rfl, by rw [upd_ne nxo]; exact hx, c, no, by decide, ?_⟩
  intro m hm
  have nmo : m ≠ o := fun z => by
    rw [z, upd_ne nxo.symm, upd_same] at hm; cases hm
  have nxm : x ≠ m := fun z => by
    rw [← z, upd_same] at hm; cases hm
  have hm0 : H m = none := by
    rwa [upd_ne nxm.symm, upd_ne nmo] at hm
  have ndm : dx ≠ m := ne_of_none hd hm0
  refine ⟨_, rfl, x, _, dx, putF "origins" (.ref o) [], rfl, by rw [upd_ne nxm, upd_same], c, nm, (by show 1 < 1000; decide), ?_⟩
  have ef : putF "made" (.ref m) (putF "origins" (.ref o) []) = plF o m := by
    have hs : ¬ (("origins" : Str) = "made") := by decide +kernel
    show (if ("origins" : Str) = "made" then _ else _) = _
    rw [if_neg hs]
    rfl
  rw [ef]
  refine k B _ o m ⟨fun a u e hn => ?_, fun a e => ?_, Same.refl _, fun a u e => ?_, fun a u e => .inl e⟩ ho hm0 ⟨upd_same, ?_, ⟨[], ?_, .nil⟩, ?_, rfl, fun j l k ns h1 => by simp at h1, ?_, fun a ha => ?_⟩
  · have hn : a ≠ x := hn
    rw [upd_ne hn, upd_ne (ne_of_none e hm0), upd_ne hn, upd_ne (ne_of_none e ho)]; exact e
  · by_cases h1 : a = x
    · subst h1; rw [upd_same] at e; cases e
    · rw [upd_ne h1] at e
      by_cases h2 : a = m
      · subst h2; rw [upd_same] at e; cases e
      · rw [upd_ne h2, upd_ne h1] at e
        by_cases h3 : a = o
        · subst h3; rw [upd_same] at e; cases e
        · rw [upd_ne h3] at e; exact e
  · have h1 : a ≠ x := ne_of_none e bx
    rw [upd_ne h1, upd_ne (ne_of_none (s a u e) hm0), upd_ne h1, upd_ne (ne_of_none (s a u e) ho)]; exact s a u e
  · rw [upd_ne hne.symm, upd_ne ndm, upd_ne hne.symm, upd_ne ndo]; exact hd
  · rw [upd_ne nxo.symm, upd_ne nmo.symm, upd_ne nxo.symm, upd_same]
  · rw [upd_ne nxm.symm, upd_same]; rfl
  · simp [plA, hne, nxo, nxm, ndo, ndm, nmo.symm]
  · simp only [plA, List.mem_cons, List.not_mem_nil, or_false] at ha
    rcases ha with rfl | rfl | rfl | rfl
    · exact bx
    · exact bd
    · exact s.free ho
    · exact s.free hm0
/-! slices of what is there -/
theorem get0 {w0 : U} {rest : List U} : getV (.lst (w0 :: rest)) (.int 0) = some w0 := by
  show atI (w0 :: rest) 0 = some w0
  unfold atI ixN
  rw [if_pos (by decide), if_pos (by simp)]
  rfl
theorem cut1 {w0 : U} {rest : List U} : sliceV (.lst (w0 :: rest)) (some 1) none = some (.lst rest) := by
  show some (U.lst (cutU (w0 :: rest) (some 1) none)) = _
  have e1 : HT.sIx (w0 :: rest).length 0 (some 1) = 1 := by
    unfold HT.sIx
    simp
  have e2 : HT.sIx (w0 :: rest).length (w0 :: rest).length none = (w0 :: rest).length := rfl
  unfold cutU
  rw [e1, e2]
  simp
end Dn
set_option Elab.async false
set_option linter.all false
set_option maxRecDepth 100000
set_option maxHeartbeats 2000000
namespace Dn
open PySem L2
variable [CTab]
def plL (mp : List (Key × U) → List (Key × List U) → U → Option (Bool × List (Key × U) × List (Key × List U))) : List U → List (Key × U) → List (Key × List U) → Option U
  | [], org, mad => some (plU org mad)
  | part :: r, org, mad => (splitV part (.str " ")).bind fun ws => (mp org mad ws).bind fun t => if t.1 = true then plL mp r t.2.1 t.2.2 else some .non
theorem pl_no_put {o m : Addr} : (plF o m).lookup ("put" : Str) = none := by
  have h1 : (("put" : Str) == "origins") = false := by decide +kernel
  have h2 : (("put" : Str) == "made") = false := by decide +kernel
  simp only [plF, List.lookup_cons, h1, h2, List.lookup_nil]
section
variable {B H : Hp} {K : PySem.W.Frag} {c0 : TT} {tsp : TE} {wi : TI} {v : V} {Q : VK} {nx : L2.St → Hp → Prop} {mp : List (Key × U) → List (Key × List U) → U → Option (Bool × List (Key × U) × List (Key × List U))} {E1 E2 : XK} {parts : List U} {r : U} {nb : Bool}
theorem plainOf_reads (s : Same B H) (h0 : EvT c0 [some v, none, none] B H (some nb)) (h1 : nb = true → some r = some U.non)
    (hi : nb = false → ∀ f B' H', Same B B' → EvI wi [some v, some f, none] B' H' (some parts)) (hsp : ∀ f part pv B' H', Rp B' part pv → EvO tsp [some v, some f, some pv] B' H' (op2 splitV (some part) (some (.str " "))))
    (hm : nb = false → plL mp parts [] [] = some r) (kQ : ∀ w B2 H2, Go B H B2 H2 → Rp B2 r w → Q w H2) :
    tSeq (tIfS c0 (tSeq (tRet (tC .non)) tNext) tNext) (tSeq (tAsg (tMake (CTab.ct 0) spInit [] E1 tNil) (gName 1)) (tSeq (tFor wi (gName 2) (tSeq (tIfS (tNot (tB (tMeth (CTab.ct 0) "put" (spPut mp) [] E2 (tVar 1) (tCons tsp tNil)))) (tSeq (tRet (tC .non)) tNext) tNext) tNext))
      (tSeq (tRet (tFrzA (tFrzA (tVar 1)))) tNext))) { nx := nx, rt := Q } [some v, none, none] H := by
  refine h0 nb rfl B H (At.refl s) _ fun B1 H1 g1 => ?_
  cases nb with
  | true => cases h1 rfl; exact kQ .non B1 H1 g1 .non
  | false =>
    intro x dx hx hdx hne
    have hx0 : H x = none := g1.h.free hx
    have hd0 : H dx = none := g1.h.free hdx
    have bx : B1 x = none := g1.bh.free hx
    have bd : B1 dx = none := g1.bh.free hdx
    have gm : Go B1 H1 B1 (upd (upd H1 dx (.own x)) x (.ins (CTab.ct 0) dx [])) := by
      refine ⟨fun a u e => ?_, Same.refl _, fun a u e => ?_, fun a u e => .inl e⟩
      · rw [upd_ne (ne_of_none e hx), upd_ne (ne_of_none e hdx)]; exact e
      · rw [upd_ne (ne_of_none e bx), upd_ne (ne_of_none e bd)]; exact g1.bh a u e
    refine ⟨B1, x, dx, gm.bh, rfl, upd_same, by rw [upd_ne hne, upd_same], hne.symm, bx, bd, fun B2 H2 o m g2 ho hmm P2 => ⟨rfl, ?_⟩⟩
    have g02 : Gs (fun _ => False) B H B2 H2 := (Gs.of (g1.trans gm)).base g2 fun a ha => by
      have ha : a = x := ha
      subst ha; exact .inr hx0
    have ho0 : H o = none := (g1.trans gm).h.free ho
    have hm0 : H m = none := (g1.trans gm).h.free hmm
    have hB2 : Same B B2 := g02.b
    show tSeq _ _ _ [some v, some (V.ref x), none] H2
    refine q_for g02.bh (hi rfl _ B2 H2 hB2) rfl fun B3 H3 g3 => ?_
    refine ⟨fun l σ' B' H' => ∃ (ow : Option V) (ls : List Addr) (org : List (Key × U)) (mad : List (Key × List U)), σ' = [some v, some (V.ref x), ow] ∧ Gs (fun _ => False) B H B' H' ∧ Same B3 B' ∧ (∀ l ∈ ls, H l = none) ∧ PlO B' H' x dx o m ls org mad ∧ plL mp l org mad = some r, ?_, ?_, ?_, ?_⟩
    · exact ⟨none, [], [], [], rfl, g02.trans (.of g3), Same.refl _, (fun l hl => by cases hl), P2.go g3, hm rfl⟩
    · rintro l σ' B' H' ⟨ow, ls, org, mad, _, g', sb, _⟩
      exact ⟨sb, g'.bh⟩
    · rintro u l pv σ' B' H' B'' H'' ⟨ow, ls, org, mad, rfl, g', sb, hls, P', ha⟩ gq rq
      obtain ⟨ws, ews, ha⟩ := bind_some ha
      obtain ⟨⟨b, org', mad'⟩, et, ha⟩ := bind_some ha
      have Pq := P'.go gq
      have gq' := g'.trans (.of gq)
      show tSeq _ tNext _ [some v, some (V.ref x), some pv] H''
      refine ⟨_, rfl, x, dx, _, rfl, Pq.hx, pl_no_put, hsp (.ref x) u pv B'' H'' rq ws (by simp [op2, ews]) B'' H'' (At.refl gq.bh) _ fun wv B4 H4 g4 r4 => ?_⟩
      have P4 := Pq.go g4
      refine ⟨B4, x, dx, o, m, ls, org, mad, wv, ws, b, org', mad', g4.bh, rfl, P4, r4, et, fun B5 H5 ls2 g5 hl2 P5 => ⟨b, rfl, ?_⟩⟩
      have g04 : Gs (fun _ => False) B H B4 H4 := gq'.trans (.of g4)
      have hA : ∀ a ∈ plA x dx o m ls, H a = none := fun a ha => by
        simp only [plA, List.mem_cons] at ha
        rcases ha with rfl | rfl | rfl | rfl | ha
        · exact hx0
        · exact hd0
        · exact ho0
        · exact hm0
        · exact hls a ha
      have g05 : Gs (fun _ => False) B H B5 H5 := g04.base g5 fun a ha => .inr (hA a ha)
      cases b with
      | false =>
        have ha : some U.non = some r := ha
        cases ha
        exact kQ .non B5 H5 g05.go .non
      | true =>
        have ha : plL mp l org' mad' = some r := ha
        refine ⟨B5, some pv, ls2, org', mad', rfl, g05, ((sb.trans gq.b).trans g4.b).trans g5.b, fun l' hl' => ?_, P5, ha⟩
        rcases hl2 l' hl' with h | h
        · exact hls l' h
        · exact g04.n l' h
    · rintro σ' B' H' ⟨ow, ls, org, mad, rfl, g', sb, hls, P', ha⟩
      cases ha
      obtain ⟨n1, n2, n3, n4, n5, n6, n7, n8, n9, n10⟩ := P'.ne
      obtain ⟨eo, eho, ro⟩ := P'.ho
      refine ⟨o, _, eho, trivial, fun ood => ⟨m, .dK ((mad.map (·.1)).zip (ls.map V.ref)), (by rw [upd_ne n8.symm]; exact P'.hm), trivial, fun mod' => ⟨_, rfl, ?_⟩⟩⟩
      obtain ⟨sB, rv⟩ := P'.val g'.bh ood mod' eho
      have hA : ∀ a ∈ plA x dx o m ls, H a = none := fun a ha => by
        simp only [plA, List.mem_cons] at ha
        rcases ha with rfl | rfl | rfl | rfl | ha
        · exact hx0
        · exact hd0
        · exact ho0
        · exact hm0
        · exact hls a ha
      refine kQ _ (lay (plA x dx o m ls) (upd (upd H' o (.frz ood (.dK eo))) m (.frz mod' (.dK ((mad.map (·.1)).zip (ls.map V.ref))))) B') _ ⟨fun a u e => ?_, g'.b.trans (P'.same _), sB, fun a u e => ?_⟩ rv
      · rw [upd_ne (ne_of_none e hm0), upd_ne (ne_of_none e ho0)]; exact g'.go.h a u e
      · by_cases hin : a ∈ plA x dx o m ls
        · exact .inr (hA a hin)
        · rw [lay_out hin] at e
          exact g'.go.fr a u e
end
end Dn
set_option Elab.async false
set_option linter.all false
set_option maxRecDepth 100000
set_option maxHeartbeats 2000000
namespace Dn
open PySem PySem.Spec PyProof.Rows L2
variable [CTab]
/-! ### zip whose pair is held: over iterators of any kind -/
section
variable {prog : Program} {w : World} {A : Around} {E : Value → Shared → Prop} {s : Shared} {z TI TO T i1 i2 : Addr} {fp1 fp2 : List Addr} {n1 n2 i : Nat} {P1 P2 : Nat → Value → Prop} {St1 St2 : Nat → Heap → Prop} {f : Bool} {oT : Obj}
theorem zipH_item {Q : Value → Shared → Prop} (S : ZipSep2 z TI TO i1 i2 fp1 fp2) (D1 : Draws prog w A i1 fp1 n1 P1 St1) (D2 : Draws prog w A i2 fp2 n2 P2 St2)
    (hz : IsZipHeld s.heap z TI TO T f) (hT : s.heap.get? T = some oT) (hTI : IsTupOf2 s.heap TI (.ref i1) (.ref i2)) (st1 : St1 i s.heap) (st2 : St2 i s.heap) (hlt1 : i < n1) (hlt2 : i < n2)
    (hQ : ∀ x1 x2 h' tk, P1 i x1 → P2 i x2 → IsZipHeld h' z TI TO T true → St1 (i + 1) h' → St2 (i + 1) h' → IsTupOf2 h' s.heap.objs.size x1 x2 → h'.objs.size = s.heap.objs.size + 1 →
      (∀ c o, c ≠ z → c ≠ i1 → c ≠ i2 → s.heap.get? c = some o → h'.get? c = some o) → Q (.ref s.heap.objs.size) { s with heap := h', toks := tk }) :
    wpAny (model prog w) A (Builtin.«zip.__next__» ⟨[.ref z], []⟩) (fun fin s' => ∃ v, fin = .done (.ret v) ∧ Q v s') E s := by
  obtain ⟨hp, g, d, tk0, os⟩ := s
  show wpAny _ _ (field (.ref z) 2 >>= _) _ _ _
  refine wpAny_bind (wpAny_field hz rfl (x := .bool false) rfl ?_)
  show wpAny _ _ (field (.ref z) 3 >>= _) _ _ _
  refine wpAny_bind (wpAny_field hz rfl (x := .ref TI) rfl ?_)
  refine wpAny_bind (wpAny_seqItems hTI rfl ?_)
  show wpAny _ _ (Builtin.SmallTypes.ownedTupleIsFree (.ref z) >>= _) _ _ _
  refine wpAny_bind (wpAny_tupleHeld_zip hz hT fun g0 hz0 hs0 => ?_)
  replace hs0 : Heap.SameBut z hp g0 := hs0
  simp only [Bool.false_eq_true, if_false]
  refine wpAny_bind ?_
  rw [← Array.forIn_toList]
  simp only [List.forIn_cons, List.forIn_nil]
  refine wpAny_bind (wpAny_bind (wpAny_holding ?_))
  show wpAny _ _ (Builtin.SmallTypes.nextOf (.ref i1) >>= _) _ _ ⟨g0, g, d, tk0, os⟩
  refine wpAny_bind (D1.item i _ _ _ hlt1 (D1.over st1 hs0 S.zf1) fun x1 p1 tk1 hx1 sn1 hp1 => wpAny_pure ?_)
  replace hp1 : Heap.SameBut i1 g0 p1 := hp1
  refine wpAny_pure ?_
  refine wpAny_bind (wpAny_bind (wpAny_holding ?_))
  show wpAny _ _ (Builtin.SmallTypes.nextOf (.ref i2) >>= _) _ _ ⟨p1, g, d, tk1, os⟩
  refine wpAny_bind (D2.item i _ _ _ hlt2 (D2.over (D2.over st2 hs0 S.zf2) hp1 S.sep1_2) fun x2 p2 tk2 hx2 sn2 hp2 => wpAny_pure ?_)
  replace hp2 : Heap.SameBut i2 p1 p2 := hp2
  refine wpAny_pure (wpAny_pure ?_)
  show wpAny _ _ (newTuple [x1, x2] >>= _) _ _ _
  refine wpAny_bind (wpAny_newTuple ?_)
  have hsz : p2.objs.size = hp.objs.size := by rw [hp2.1, hp1.1, hs0.1]
  have hzz : IsZipHeld p2 z TI TO T true := hp2.extBut _ _ S.zi2 (hp1.extBut _ _ S.zi1 hz0)
  have hkk : ∀ c o, c ≠ z → c ≠ i1 → c ≠ i2 → hp.get? c = some o → p2.get? c = some o := fun c o cz c1 c2 e => hp2.extBut _ _ c2 (hp1.extBut _ _ c1 (hs0.extBut _ _ cz e))
  have hj1 : St1 (i + 1) p2 := D1.over sn1 hp2 S.sep2_1
  refine wpAny_pure ⟨_, rfl, ?_⟩
  show Q (.ref p2.objs.size) ⟨p2.push { cls := .type "tuple", data := .seq #[x1, x2] }, g, d, tk2, os⟩
  have hpp : IsTupOf2 (p2.push { cls := .type "tuple", data := .seq #[x1, x2] }) p2.objs.size x1 x2 := Heap.get?_push_size _ rfl
  have hz4 : (p2.push { cls := .type "tuple", data := .seq #[x1, x2] }).objs.size = p2.objs.size + 1 := Heap.size_push ..
  rw [hsz] at hpp hz4 ⊢
  exact hQ x1 x2 _ tk2 hx1 hx2 (Heap.get?_push_of_some _ hzz) (D1.frame _ _ _ hj1 fun b _ o e => Heap.get?_push_of_some _ e) (D2.frame _ _ _ sn2 fun b _ o e => Heap.get?_push_of_some _ e) hpp hz4 fun c o c1 c2 c3 e => Heap.get?_push_of_some _ (hkk c o c1 c2 c3 e)
theorem zipH_end {Q : Fin → Shared → Prop} (S : ZipSep2 z TI TO i1 i2 fp1 fp2) (D1 : Draws prog w A i1 fp1 n1 P1 St1) (D2 : Draws prog w A i2 fp2 n2 P2 St2)
    (hz : IsZipHeld s.heap z TI TO T f) (hT : s.heap.get? T = some oT) (hTI : IsTupOf2 s.heap TI (.ref i1) (.ref i2)) (st1 : St1 i s.heap) (st2 : St2 i s.heap) (hle1 : i ≤ n1) (hle2 : i ≤ n2) (hend : i = n1 ∨ i = n2)
    (hE : ∀ h' tk e, (∀ c o, c ≠ z → c ≠ i1 → c ≠ i2 → s.heap.get? c = some o → h'.get? c = some o) → (∃ o, h'.get? e = some o ∧ o.cls = .type "StopIteration") → E (.ref e) { s with heap := h', toks := tk }) :
    wpAny (model prog w) A (Builtin.«zip.__next__» ⟨[.ref z], []⟩) Q E s := by
  obtain ⟨hp, g, d, tk0, os⟩ := s
  show wpAny _ _ (field (.ref z) 2 >>= _) _ _ _
  refine wpAny_bind (wpAny_field hz rfl (x := .bool false) rfl ?_)
  show wpAny _ _ (field (.ref z) 3 >>= _) _ _ _
  refine wpAny_bind (wpAny_field hz rfl (x := .ref TI) rfl ?_)
  refine wpAny_bind (wpAny_seqItems hTI rfl ?_)
  show wpAny _ _ (Builtin.SmallTypes.ownedTupleIsFree (.ref z) >>= _) _ _ _
  refine wpAny_bind (wpAny_tupleHeld_zip hz hT fun g0 hz0 hs0 => ?_)
  replace hs0 : Heap.SameBut z hp g0 := hs0
  simp only [Bool.false_eq_true, if_false]
  refine wpAny_bind ?_
  rw [← Array.forIn_toList]
  simp only [List.forIn_cons, List.forIn_nil]
  refine wpAny_bind (wpAny_bind (wpAny_holding ?_))
  show wpAny _ _ (Builtin.SmallTypes.nextOf (.ref i1) >>= _) _ _ ⟨g0, g, d, tk0, os⟩
  by_cases hlt1 : i < n1
  · refine wpAny_bind (D1.item i _ _ _ hlt1 (D1.over st1 hs0 S.zf1) fun x1 p1 tk1 hx1 sn1 hp1 => wpAny_pure ?_)
    replace hp1 : Heap.SameBut i1 g0 p1 := hp1
    refine wpAny_pure ?_
    refine wpAny_bind (wpAny_bind (wpAny_holding ?_))
    show wpAny _ _ (Builtin.SmallTypes.nextOf (.ref i2) >>= _) _ _ ⟨p1, g, d, tk1, os⟩
    have hi2 : i = n2 := by omega
    refine wpAny_bind (D2.done ⟨p1, g, d, tk1, os⟩ _ _ (by rw [← hi2]; exact (D2.over (D2.over st2 hs0 S.zf2) hp1 S.sep1_2)) fun q e hq he => ?_)
    replace hq : Heap.ExtBut i2 p1 q := hq
    exact hE q tk1 e (fun c o cz c1 c2 x => hq _ _ c2 (hp1.extBut _ _ c1 (hs0.extBut _ _ cz x))) he
  · have hi1 : i = n1 := by omega
    refine wpAny_bind (D1.done ⟨g0, g, d, tk0, os⟩ _ _ (by rw [← hi1]; exact (D1.over st1 hs0 S.zf1)) fun q e hq he => ?_)
    replace hq : Heap.ExtBut i1 g0 q := hq
    exact hE q tk0 e (fun c o cz c1 c2 x => hq _ _ c1 (hs0.extBut _ _ cz x)) he
theorem nextH_item {Q : Option Value → Shared → Prop} (S : ZipSep2 z TI TO i1 i2 fp1 fp2) (D1 : Draws prog w A.in1 i1 fp1 n1 P1 St1) (D2 : Draws prog w A.in1 i2 fp2 n2 P2 St2)
    (hz : IsZipHeld s.heap z TI TO T f) (hT : s.heap.get? T = some oT) (hTI : IsTupOf2 s.heap TI (.ref i1) (.ref i2)) (st1 : St1 i s.heap) (st2 : St2 i s.heap) (hlt1 : i < n1) (hlt2 : i < n2)
    (hQ : ∀ x1 x2 h' tk, P1 i x1 → P2 i x2 → IsZipHeld h' z TI TO T true → St1 (i + 1) h' → St2 (i + 1) h' → IsTupOf2 h' s.heap.objs.size x1 x2 → h'.objs.size = s.heap.objs.size + 1 →
      (∀ c o, c ≠ z → c ≠ i1 → c ≠ i2 → s.heap.get? c = some o → h'.get? c = some o) → Q (some (.ref s.heap.objs.size)) { s with heap := h', toks := tk }) :
    wpAny (model prog w) A (pyNext (.ref z)) Q E s := by
  have hTy : s.TypeIs (.ref z) "zip" := ⟨_, hz, rfl⟩
  unfold pyNext
  exact wpAny_bind (wpAny_attempt (wpAny_callSpecial?_slot (name := Str.ofString "__next__") hTy F.slot_zip_next
    (wpAny_call_entry F.slot_zip_next hTy F.entry_zip_next
      (zipH_item S D1 D2 hz hT hTI st1 st2 hlt1 hlt2 fun x1 x2 h' tk a1 a2 a3 a4 a5 a6 a7 a8 => wpAny_pure (hQ x1 x2 h' tk a1 a2 a3 a4 a5 a6 a7 a8)) (F.args_zip_next_1 _))))
theorem nextH_end {Q : Option Value → Shared → Prop} (S : ZipSep2 z TI TO i1 i2 fp1 fp2) (D1 : Draws prog w A.in1 i1 fp1 n1 P1 St1) (D2 : Draws prog w A.in1 i2 fp2 n2 P2 St2)
    (hz : IsZipHeld s.heap z TI TO T f) (hT : s.heap.get? T = some oT) (hTI : IsTupOf2 s.heap TI (.ref i1) (.ref i2)) (st1 : St1 i s.heap) (st2 : St2 i s.heap) (hle1 : i ≤ n1) (hle2 : i ≤ n2) (hend : i = n1 ∨ i = n2)
    (hQ : ∀ h' tk, (∀ c o, c ≠ z → c ≠ i1 → c ≠ i2 → s.heap.get? c = some o → h'.get? c = some o) → Q none { s with heap := h', toks := tk }) : wpAny (model prog w) A (pyNext (.ref z)) Q E s := by
  have hTy : s.TypeIs (.ref z) "zip" := ⟨_, hz, rfl⟩
  unfold pyNext
  refine wpAny_bind (wpAny_attempt (wpAny_callSpecial?_slot (name := Str.ofString "__next__") hTy F.slot_zip_next
    (wpAny_call_entry F.slot_zip_next hTy F.entry_zip_next (zipH_end S D1 D2 hz hT hTI st1 st2 hle1 hle2 hend fun h' tk e hk he => ?_) (F.args_zip_next_1 _))))
  obtain ⟨o, ho, hc⟩ := he
  refine wpAny_bind (wpAny_isInstance (T := "StopIteration") (b := true) ⟨o, ho, hc⟩ isSubtype_stop ?_)
  exact wpAny_pure (hQ _ _ hk)
end
/-- zip of two sequences, lists or tuples, as an argument of dict() -/
theorem pairArg_zipX {prog : Program} {w : World} {z TI TO i1 i2 l1 l2 : Addr} {ka kb : Bool} (S : ZipSep2 z TI TO i1 i2 [i1, l1] [i2, l2]) (n1' : l1 ≠ i1) (n2' : l2 ≠ i2) (l1z : l1 ≠ z) (l2z : l2 ≠ z) (xs ys : Array Value) :
    PairArg prog w "zip" z [z, TI, TO, i1, i2, l1, l2] [z, TO, i1, i2] (min xs.size ys.size) (fun i k v => xs[i]? = some k ∧ ys[i]? = some v)
      (fun h => IsZip h z TI TO .none ∧ IsTupOf2 h TI (.ref i1) (.ref i2) ∧ (∃ a b, IsTupOf2 h TO a b) ∧ (IterX ka h i1 l1 0 ∧ IsX ka h l1 xs) ∧ (IterX kb h i2 l2 0 ∧ IsX kb h l2 ys)) where
  type := fun s ok => ⟨_, ok.1, rfl⟩
  notDict := by decide
  keep := fun h h' ok hk => by
    obtain ⟨hz, hTI, ⟨a, b, hTO⟩, ⟨h1, hl1⟩, ⟨h2, hl2⟩⟩ := ok
    refine ⟨hk _ _ hz, hk _ _ hTI, ⟨a, b, hk _ _ hTO⟩, ⟨h1.at fun o e => hk _ o e, ?_⟩, ⟨h2.at fun o e => hk _ o e, ?_⟩⟩
    · cases ka with
      | true => exact (show h.IsTuple l1 xs from hl1).at fun o e => hk _ o e
      | false => exact (show h.IsList l1 xs from hl1).at fun o e => hk _ o e
    · cases kb with
      | true => exact (show h.IsTuple l2 ys from hl2).at fun o e => hk _ o e
      | false => exact (show h.IsList l2 ys from hl2).at fun o e => hk _ o e
  there := fun h ok b hb => by
    obtain ⟨hz, hTI, ⟨a, c, hTO⟩, ⟨h1, hl1⟩, ⟨h2, hl2⟩⟩ := ok
    obtain ⟨o1, e1, _⟩ := h1.ob
    obtain ⟨o2, e2, _⟩ := h2.ob
    have e3 : ∃ o, h.get? l1 = some o := by
      cases ka with
      | true => obtain ⟨o, e, _⟩ := (show h.IsTuple l1 xs from hl1); exact ⟨o, e⟩
      | false => obtain ⟨o, e, _⟩ := (show h.IsList l1 xs from hl1); exact ⟨o, e⟩
    have e4 : ∃ o, h.get? l2 = some o := by
      cases kb with
      | true => obtain ⟨o, e, _⟩ := (show h.IsTuple l2 ys from hl2); exact ⟨o, e⟩
      | false => obtain ⟨o, e, _⟩ := (show h.IsList l2 ys from hl2); exact ⟨o, e⟩
    simp only [List.mem_cons, List.not_mem_nil, or_false] at hb
    rcases hb with rfl | rfl | rfl | rfl | rfl | rfl | rfl
    all_goals first | exact ⟨_, hz⟩ | exact ⟨_, hTI⟩ | exact ⟨_, hTO⟩ | exact ⟨_, e1⟩ | exact ⟨_, e2⟩ | exact e3 | exact e4
  sub := fun b hb => by simp at hb ⊢; rcases hb with rfl | rfl | rfl | rfl <;> simp
  noKeys := fun A s Q E hA ok h => getAttrOr_miss_zip ok.1 rfl rfl rfl zip_no_keys (by decide +kernel) hA h
  iter := fun A s d Q E hA ok hd hdf h => by
    obtain ⟨hz, hTI, ⟨a, b, hTO⟩, st1, st2⟩ := ok
    simp only [List.mem_cons, List.not_mem_nil, or_false, not_or] at hdf
    obtain ⟨dz, dTI, dTO, di1, di2, dl1, dl2⟩ := hdf
    have hAi : A.in1.handled = none := hA
    have D1 := drawsX (prog := prog) (w := w) hAi ka i1 l1 n1' xs
    have D2 := drawsX (prog := prog) (w := w) hAi kb i2 l2 n2' ys
    refine wpAny_pyIter_zip hz (h z [z, TO, i1, i2] (fun i h => IsTupOf2 h TI (.ref i1) (.ref i2) ∧ (IterX ka h i1 l1 i ∧ IsX ka h l1 xs) ∧ (IterX kb h i2 l2 i ∧ IsX kb h l2 ys) ∧
      ((IsZip h z TI TO .none ∧ ∃ a b, IsTupOf2 h TO a b) ∨ ∃ T f oT, IsZipHeld h z TI TO T f ∧ h.get? T = some oT ∧ T ≠ z ∧ T ≠ i1 ∧ T ≠ i2 ∧ T ≠ d)) s.heap s.toks ?_
      ⟨hTI, st1, st2, .inl ⟨hz, a, b, hTO⟩⟩ (fun _ _ e => e) fun b hb => .inl hb)
    exact {
      off := fun hm => by
        simp only [List.mem_cons, List.not_mem_nil, or_false] at hm
        rcases hm with e | e | e | e
        · exact dz e
        · exact dTO e
        · exact di1 e
        · exact di2 e
      frame := fun i h₁ h₂ st hk => by
        obtain ⟨hTI, st1, st2, hz⟩ := st
        refine ⟨hk _ _ (Ne.symm dTI) hTI, D1.frame _ _ _ st1 fun b hb o e => hk b o (fun q => by simp at hb; rcases hb with hb | hb; exact di1 (q.symm.trans hb); exact dl1 (q.symm.trans hb)) e, D2.frame _ _ _ st2 fun b hb o e => hk b o (fun q => by simp at hb; rcases hb with hb | hb; exact di2 (q.symm.trans hb); exact dl2 (q.symm.trans hb)) e, ?_⟩
        rcases hz with ⟨hz, a, b, hTO⟩ | ⟨T, f, oT, hz, hT, r1, r2, r3, r4⟩
        · exact .inl ⟨hk _ _ (Ne.symm dz) hz, a, b, hk _ _ (Ne.symm dTO) hTO⟩
        · exact .inr ⟨T, f, oT, hk _ _ (Ne.symm dz) hz, hk _ _ r4 hT, r1, r2, r3, r4⟩
      item := fun i s₁ Q₁ E₁ hi st hds hQ => by
        obtain ⟨hTI, st1, st2, hz⟩ := st
        have hix : i < xs.size := Nat.lt_of_lt_of_le hi (Nat.min_le_left ..)
        have hiy : i < ys.size := Nat.lt_of_lt_of_le hi (Nat.min_le_right ..)
        have lt : ∀ {c o}, s₁.heap.get? c = some o → s₁.heap.objs.size ≠ c := fun e => Nat.ne_of_gt (Heap.lt_size e)
        have m1 : s₁.heap.objs.size ≠ i1 := let ⟨_, e, _⟩ := st1.1.ob; lt e
        have m2 : s₁.heap.objs.size ≠ i2 := let ⟨_, e, _⟩ := st2.1.ob; lt e
        rcases hz with ⟨hz, a, b, hTO⟩ | ⟨T, f, oT, hz, hT, r1, r2, r3, r4⟩
        · refine wpAny_pyNext_zipD2_item S D1 D2 hz hTI hTO st1 st2 hix hiy fun x1 x2 h' tk p1 p2 a1 a2 a3 a4 a5 a6 hk => ?_
          exact hQ s₁.heap.objs.size _ _ h' tk ⟨p1, p2⟩ (.inl ⟨_, a5, rfl, _, rfl⟩)
            ⟨hk _ _ S.TIz S.TITO S.TIi1 S.TIi2 hTI, a3, a4, .inr ⟨s₁.heap.objs.size, false, _, a1, a5, lt hz, m1, m2, Nat.ne_of_gt hds⟩⟩
            fun c o hc e => hk c o (fun x => hc (by simp [x])) (fun x => hc (by simp [x])) (fun x => hc (by simp [x])) (fun x => hc (by simp [x])) e
        · refine nextH_item S D1 D2 hz hT hTI st1 st2 hix hiy fun x1 x2 h' tk p1 p2 a1 a3 a4 a5 a6 hk => ?_
          exact hQ s₁.heap.objs.size _ _ h' tk ⟨p1, p2⟩ (.inl ⟨_, a5, rfl, _, rfl⟩)
            ⟨hk _ _ S.TIz S.TIi1 S.TIi2 hTI, a3, a4, .inr ⟨T, true, oT, a1, hk _ _ r1 r2 r3 hT, r1, r2, r3, r4⟩⟩
            fun c o hc e => hk c o (fun x => hc (by simp [x])) (fun x => hc (by simp [x])) (fun x => hc (by simp [x])) e
      done := fun s₁ Q₁ E₁ st hQ => by
        obtain ⟨hTI, st1, st2, hz⟩ := st
        have e1 : min xs.size ys.size ≤ xs.size := Nat.min_le_left ..
        have e2 : min xs.size ys.size ≤ ys.size := Nat.min_le_right ..
        have hend : min xs.size ys.size = xs.size ∨ min xs.size ys.size = ys.size := by omega
        rcases hz with ⟨hz, a, b, hTO⟩ | ⟨T, f, oT, hz, hT, r1, r2, r3, r4⟩
        · exact wpAny_pyNext_zipD2_end S D1 D2 hz hTI hTO st1 st2 e1 e2 hend fun h' tk hk => hQ h' tk fun c o hc e => hk c o (fun x => hc (by simp [x])) (fun x => hc (by simp [x])) (fun x => hc (by simp [x])) (fun x => hc (by simp [x])) e
        · exact nextH_end S D1 D2 hz hT hTI st1 st2 e1 e2 hend fun h' tk hk => hQ h' tk fun c o hc e => hk c o (fun x => hc (by simp [x])) (fun x => hc (by simp [x])) (fun x => hc (by simp [x])) e }
end Dn
set_option Elab.async false
set_option linter.all false
set_option maxRecDepth 100000
set_option maxHeartbeats 2000000
namespace Dn
open PySem PySem.Spec PyProof.Rows L2
variable [CTab]
def mergeT (kvs more : List (List Key × V)) : List (List Key × V) := more.foldl (fun acc kv => putK acc kv.1 kv.2) kvs
theorem length_mergeT : ∀ (more kvs : List (List Key × V)), (mergeT kvs more).length ≤ kvs.length + more.length
  | [], kvs => by show kvs.length ≤ kvs.length + 0; omega
  | p :: r, kvs => by
    have h1 := length_mergeT r (putK kvs p.1 p.2)
    have h2 := length_putK kvs p.1 p.2
    show (mergeT (putK kvs p.1 p.2) r).length ≤ _
    rw [List.length_cons]; omega
/-- dict(zip(a, b)) -/
def tDZ (K : PySem.W.Frag) (ta : TA) : TE := fun σ H Q => ta σ H fun vs H2 => ∃ ka kb a b xs ys, vs = [.ref a, .ref b] ∧ SqX K H2 ka a xs ∧ SqX K H2 kb b ys ∧ xs.length ≤ lim ∧
  ((∃ ks : List Key, xs = ks.map kV ∧ ∀ p, H2 p = none → Q (.ref p) (upd H2 p (.dK (mergeK [] (ks.zip ys))))) ∨
   (∃ (ks : List (List Key)) (bs : List Addr), xs = bs.map V.ref ∧ ks.length = bs.length ∧ (∀ (j : Nat) k b, ks[j]? = some k → bs[j]? = some b → H2 b = some (.tup (k.map kV))) ∧ ∀ p, H2 p = none → Q (.ref p) (upd H2 p (.dT (mergeT [] (ks.zip ys))))))
theorem kv_zip : ∀ {ks : List Key} {ys : List V} {us : List Value}, Vals ys us → KV (ks.zip ys) (ks.zip us)
  | [], _, _, _ => by rw [List.zip_nil_left, List.zip_nil_left]; exact .nil
  | _ :: _, _, _, .nil => by rw [List.zip_nil_right, List.zip_nil_right]; exact .nil
  | k :: ks, _, _, .cons h t => .cons ⟨rfl, h⟩ (kv_zip t)
theorem kt_merge {H : Hp} : ∀ (ks : List (List Key)) {bs : List Addr} {ys : List V} {us : List Value} {kvs : List (List Key × V)} {xs : List (List Key × Addr × Value)}, ks.length = bs.length → (∀ (j : Nat) k b, ks[j]? = some k → bs[j]? = some b → H b = some (.tup (k.map kV))) → Vals ys us → KT H kvs xs →
    KT H (mergeT kvs (ks.zip ys)) (storedAllH xs (ks.zip (bs.zip us)))
  | [], _, _, _, _, _, _, _, _, r => by rw [List.zip_nil_left, List.zip_nil_left]; exact r
  | k :: ks, [], _, _, _, _, h, _, _, _ => by simp at h
  | k :: ks, b :: bs, _, _, _, _, h, hb, v, r => by
    cases v with
    | nil => simp only [List.zip_nil_right]; exact r
    | cons h1 t =>
      have := KT.put r k (hb 0 k b rfl rfl) h1
      exact kt_merge ks (by simpa using h) (fun j k' b' e1 e2 => hb (j + 1) k' b' (by simpa using e1) (by simpa using e2)) t this
theorem pe_dictzip {X : Cx} {K : PySem.W.Frag} {e e2 : Expr} {ta tb : TE} {p0 pos p pos2 : Pos} (hK : X.K = K) (hc : X.calm = true) (hu : X.A.units + 64 < cLine) (hgd : Gl X "dict") (hmd : X.mg "dict" = none) (hg : Gl X "zip") (hm : X.mg "zip" = none) (h1 : PE X e ta) (h2 : PE X e2 tb)
    (hs1 : starEach [.Call (.Name "zip" p) [e, e2] [] pos2] X.env = (false, eval (.Call (.Name "zip" p) [e, e2] [] pos2) X.env) :: starEach [] X.env := by rfl) (hp1 : (backTo pos (starEach [] X.env)).any (·.1) = false := by rfl)
    (he1 : starEach [e, e2] X.env = (false, eval e X.env) :: starEach [e2] X.env := by rfl) (he2 : starEach [e2] X.env = (false, eval e2 X.env) :: starEach [] X.env := by rfl) (hpl : (backTo pos2 (starEach [e2] X.env)).any (·.1) = false := by rfl) :
    PE X (.Call (.Name "dict" p0) [.Call (.Name "zip" p) [e, e2] [] pos2] [] pos) (tDZ K (tCons ta (tCons tb tNil))) := by
  subst hK
  have ha : PA X [e, e2] (tCons ta (tCons tb tNil)) := pa_cons h1 (pa_cons h2 pa_nil he2) he1
  refine ⟨fun pins s σ H Q I h => ?_⟩
  refine wpAny_Call_Name_kw (ld_blt I hgd hmd boot_dict ?_)
  refine PyProof.Rows.callWith_type1 ?_ hs1 hp1
  rw [hs1]
  show wpAny _ _ (spliced ((false, eval (.Call (.Name "zip" p) [e, e2] [] pos2) X.env) :: backTo pos (starEach [] X.env))) _ _ s
  refine Calls.spliced_cons ?_
  refine wpAny_Call_Name_kw (ld_blt I hg hm boot_zip ?_)
  refine PyProof.Rows.callWith_type1 (thn (ha.run pos2 pins s σ H _ I h) fun us s1 ⟨vs, H1, I1, r1, ka, kb, a, b, xs, ys, ev, hqx, hqy, hlx, q⟩ => ?_) he1 hpl
  subst ev
  cases r1 with
  | cons r rr =>
    cases rr with
    | cons r' rr =>
      cases rr
      cases r
      cases r'
      obtain ⟨its, rv, p1, la⟩ := sqx_of I1 hqx
      obtain ⟨its2, rv2, p2, lb⟩ := sqx_of I1 hqy
      obtain ⟨o1, b1, it1⟩ := beginsX ka a its.toArray
      obtain ⟨o2, b2, it2⟩ := beginsX kb b its2.toArray
      refine zip_begins2 b1 b2 p1 p2 fun h1' hz hTI hTO g1 g2 hsz hk => Calls.spliced_nil ?_
      have hh : X.A.handled = none := I1.ok.hd hc
      have S := zip_sep2 (N := s1.heap.objs.size) (fp1 := [a]) (fp2 := [b]) (by simpa using la) (by simpa using lb)
      have P := pairArg_zipX (prog := X.prog) (w := X.w) (ka := ka) (kb := kb) S (Nat.ne_of_lt la) (Nat.ne_of_lt (Nat.lt_succ_of_lt lb)) (Nat.ne_of_lt (Nat.lt_of_lt_of_le la (Nat.le_add_right _ _))) (Nat.ne_of_lt (Nat.lt_of_lt_of_le lb (Nat.le_add_right _ _))) its.toArray its2.toArray
      have kx : ∀ (k : Bool) (c : Addr) (l : List Value), IsX k s1.heap c l.toArray → IsX k h1' c l.toArray := fun k c l hx => by
        cases k with
        | true => exact (show s1.heap.IsTuple c l.toArray from hx).at fun o e => hk _ o e
        | false => exact (show s1.heap.IsList c l.toArray from hx).at fun o e => hk _ o e
      have ok : IsZip h1' (s1.heap.objs.size + 4) (s1.heap.objs.size + 2) (s1.heap.objs.size + 3) .none ∧ IsTupOf2 h1' (s1.heap.objs.size + 2) (.ref s1.heap.objs.size) (.ref (s1.heap.objs.size + 1)) ∧ (∃ a b, IsTupOf2 h1' (s1.heap.objs.size + 3) a b) ∧
          (IterX ka h1' s1.heap.objs.size a 0 ∧ IsX ka h1' a its.toArray) ∧ (IterX kb h1' (s1.heap.objs.size + 1) b 0 ∧ IsX kb h1' b its2.toArray) := ⟨hz, hTI, ⟨_, _, hTO⟩, ⟨it1 _ _ g1, kx ka a its p1⟩, ⟨it2 _ _ g2, kx kb b its2 p2⟩⟩
      have l1 := rv.length
      have l2 := rv2.length
      have hn : min its.toArray.size its2.toArray.size ≤ sizeLine := by
        have := lim_size hlx
        simp only [List.size_toArray]; omega
      have old : ∀ c o, s1.heap.get? c = some o → c ∉ [s1.heap.objs.size + 4, s1.heap.objs.size + 3, s1.heap.objs.size, s1.heap.objs.size + 1] := fun c o e hm => by
        have := Heap.lt_size e
        simp only [List.mem_cons, List.not_mem_nil, or_false] at hm
        rcases hm with q | q | q | q
        all_goals rw [q] at this
        all_goals first | exact Nat.lt_irrefl _ this | exact absurd this (Nat.not_lt.mpr (Nat.le_add_right _ _))
      have low : (h1'.objs.size == sysModules) = false := by
        have := I1.big
        rw [hsz]
        exact beq_eq_false_iff_ne.mpr (Nat.ne_of_gt (Nat.lt_of_lt_of_le this (Nat.le_add_right _ _)))
      have hle : s1.heap.objs.size ≤ h1'.objs.size := by rw [hsz]; exact Nat.le_add_right _ _
      rcases q with ⟨ks, ex, q⟩ | ⟨ks, bs, ex, hkl, hbs, q⟩
      · subst ex
        refine call_dict_pairs (s := { s1 with heap := h1' }) (knd := mixKind X.prog X.w) (kvs := ks.zip its2) P hh ok ⟨?_, fun i key v hR => ?_⟩ hn fun h' tk dd hk' => ?_
        · simp only [List.length_zip, List.size_toArray]
          rw [List.length_map] at l1
          omega
        · obtain ⟨e1, e2⟩ := hR
          have e1 : its[i]? = some key := by simpa using e1
          have e2 : its2[i]? = some v := by simpa using e2
          have hi : i < ks.length := by
            have := (List.getElem?_eq_some_iff.mp e1).1
            rw [List.length_map] at l1
            omega
          obtain ⟨u, eu, ru⟩ := rv.get (i := i) (x := kV ks[i]) (by simp [hi])
          rw [e1] at eu
          cases eu
          refine ⟨ks[i], ?_, kV_is ru⟩
          rw [List.getElem?_zip_eq_some]
          exact ⟨by simp [hi], e2⟩
        · refine ⟨.ref h1'.objs.size, _, I1.laid (t' := tk) (fun c o e => hk' c o (old c o e) (hk c o e)) hle ?_, rfl, q _ (I1.hok.fresh hle)⟩
          refine dk_new ?_ low ((kv_zip rv2).merge .nil) dd
          have h1 := length_mergeK (ks.zip ys) []
          have h2 := lim_size hlx
          rw [List.length_nil, List.length_zip] at h1
          rw [List.length_map] at h2
          omega
      · subst ex
        refine call_dict_pairsH (s := { s1 with heap := h1' }) (knd := tupleKind (mixKind X.prog X.w)) (ps := ks.zip (bs.zip its2)) P hh (show X.A.units + 1 + 1 < cLine by omega) ok ⟨?_, fun i key v hR => ?_⟩ (fun h' hk' x hx => ?_) hn fun h' tk dd hk' => ?_
        · simp only [List.length_zip, List.size_toArray]
          rw [List.length_map] at l1
          omega
        · obtain ⟨e1, e2⟩ := hR
          have e1 : its[i]? = some key := by simpa using e1
          have e2 : its2[i]? = some v := by simpa using e2
          have hi : i < bs.length := by
            have := (List.getElem?_eq_some_iff.mp e1).1
            rw [List.length_map] at l1
            omega
          have hi' : i < ks.length := by omega
          obtain ⟨u, eu, ru⟩ := rv.get (i := i) (x := V.ref bs[i]) (by simp [hi])
          rw [e1] at eu
          cases eu
          refine ⟨ks[i], bs[i], ?_, ru⟩
          rw [List.getElem?_zip_eq_some]
          refine ⟨by simp [hi'], ?_⟩
          rw [List.getElem?_zip_eq_some]
          exact ⟨by simp [hi], e2⟩
        · obtain ⟨i, hi, ei⟩ := List.getElem_of_mem hx
          have e0 : (ks.zip (bs.zip its2))[i]? = some x := List.getElem?_eq_some_iff.mpr ⟨hi, ei⟩
          rw [List.getElem?_zip_eq_some] at e0
          obtain ⟨e1, e0⟩ := e0
          rw [List.getElem?_zip_eq_some] at e0
          obtain ⟨e2, _⟩ := e0
          have hb := hbs i x.1 x.2.1 e1 e2
          obtain ⟨o, its', n, a1, a2, a3, a4⟩ := key_of I1.hok hb
          have hlt := Heap.lt_size a1
          refine ⟨o, its', n, hk' _ _ ?_ (old _ _ a1) (hk _ _ a1), a2, a3, a4⟩
          show x.2.1 ≠ h1'.objs.size
          rw [hsz]
          exact Nat.ne_of_lt (Nat.lt_of_lt_of_le hlt (Nat.le_add_right _ _))
        · obtain ⟨od, es, ep, hq, d2, d3, d4, _, d5⟩ := dd
          refine ⟨.ref h1'.objs.size, _, I1.laid (t' := tk) (fun c o e => hk' c o (old c o e) (hk c o e)) hle ?_, rfl, q _ (I1.hok.fresh hle)⟩
          refine ⟨?_, low, _, (kt_merge ks hkl hbs rv2 .nil).keeps fun c zs ec => ?_, od, es, ep, hq, d2, d3, d4, d5⟩
          · have h1 := length_mergeT (ks.zip ys) []
            have h2 := lim_size hlx
            rw [List.length_nil, List.length_zip] at h1
            rw [List.length_map] at h2
            omega
          · rw [upd_ne (ne_of_none ec (I1.hok.fresh hle))]; exact ec
end Dn
set_option Elab.async false
set_option linter.all false
set_option maxRecDepth 100000
set_option maxHeartbeats 2000000
namespace Dn
open PySem L2
variable [CTab]
/-! ### what an expression gives is locked for good -/
def tFrz (te : TE) : TE := fun σ H Q => te σ H fun v H1 => ∃ d u, v = .ref d ∧ H1 d = some u ∧ Mut (some u) ∧ ∀ od, Q v (upd H1 d (.frz od u))
theorem pe_frz {X : Cx} {e : Expr} {t : TE} (h : PE X e t) : PE X e (tFrz t) := by
  refine ⟨fun pins s σ H Q I hw => ?_⟩
  refine thn (h.run pins s σ H _ I hw) fun v s1 ⟨x, H1, I1, r1, d, u, ex, hd, mu, q⟩ => ?_
  obtain ⟨od, I2⟩ := I1.lock hd mu
  exact ⟨x, _, I2, r1, q od⟩
def mergeU {κ : Type} [DecidableEq κ] (kvs more : List (κ × U)) : List (κ × U) := more.foldl (fun acc kv => putU acc kv.1 kv.2) kvs
theorem Rpk.merge {B : Hp} : ∀ (ks : List Key) {ys : List U} {vs : List V} {kvs : List (Key × U)} {es : List (Key × V)}, Rps B ys vs → Rpk B kvs es → Rpk B (mergeU kvs (ks.zip ys)) (mergeK es (ks.zip vs))
  | [], _, _, _, _, _, r => by rw [List.zip_nil_left, List.zip_nil_left]; exact r
  | k :: ks, _, _, _, _, .nil, r => by rw [List.zip_nil_right, List.zip_nil_right]; exact r
  | k :: ks, _, _, _, _, .cons h t, r => Rpk.merge ks t (r.put h k)
theorem Rpt.merge {B : Hp} : ∀ (ks : List (List Key)) {ys : List U} {vs : List V} {kvs : List (List Key × U)} {es : List (List Key × V)}, Rps B ys vs → Rpt B kvs es → Rpt B (mergeU kvs (ks.zip ys)) (mergeT es (ks.zip vs))
  | [], _, _, _, _, _, r => by rw [List.zip_nil_left, List.zip_nil_left]; exact r
  | k :: ks, _, _, _, _, .nil, r => by rw [List.zip_nil_right, List.zip_nil_right]; exact r
  | k :: ks, _, _, _, _, .cons h t, r => Rpt.merge ks t (r.put h k)
def keysT : List U → Option (List (List Key))
  | [] => some []
  | .tup ys :: xs => (keysL ys).bind fun k => (keysT xs).map fun r => k :: r
  | _ :: _ => none
theorem Rps.keysT {B : Hp} : ∀ {xs : List U} {vs : List V} {ks : List (List Key)}, Rps B xs vs → keysT xs = some ks → ∃ bs : List Addr, vs = bs.map V.ref ∧ ks.length = bs.length ∧ ∀ (j : Nat) k b, ks[j]? = some k → bs[j]? = some b → B b = some (.tup (k.map kV))
  | _, _, _, .nil, h => by cases h; exact ⟨[], rfl, rfl, fun j k b e => by simp at e⟩
  | _, _, _, .cons (@Rp.tup _ _ a ys ws e r) t, h => by
    obtain ⟨k, ek, h⟩ := bind_some h
    obtain ⟨ks, eks, h⟩ := map_some h
    subst h
    obtain ⟨bs, e1, e2, e3⟩ := Rps.keysT t eks
    refine ⟨a :: bs, by rw [e1]; rfl, by simp [e2], fun j k' b h1 h2 => ?_⟩
    cases j with
    | zero => simp at h1 h2; subst h1 h2; rw [← r.keys ek]; exact e
    | succ j => exact e3 j k' b (by simpa using h1) (by simpa using h2)
def dzV (x y : U) : Option U := x.items.bind fun xs => y.items.bind fun ys => if xs.length ≤ lim then match keysL xs with
  | some ks => some (.dic (mergeU [] (ks.zip ys)))
  | none => (keysT xs).map fun ks => .dit (mergeU [] (ks.zip ys)) else none
theorem eo_dictzip {K : PySem.W.Frag} {σ : L2.St} {B H : Hp} {ta tb : TE} {oa ob : Option U} (ha : EvO ta σ B H oa) (hb : EvO tb σ B H ob) : EvO (tFrz (tDZ K (tCons ta (tCons tb tNil)))) σ B H (op2 dzV oa ob) := fun z e B1 H1 g Q q => by
  obtain ⟨x, ex, e⟩ := bind_some e
  obtain ⟨y, ey, e⟩ := bind_some e
  obtain ⟨xs, exs, e⟩ := bind_some e
  obtain ⟨ys, eys, e⟩ := bind_some e
  split at e
  · rename_i hl
    refine ha x ex B1 H1 g _ fun v B2 H2 g2 r2 => hb y ey B2 H2 (g.trans g2) _ fun w B3 H3 g3 r3 => ?_
    obtain ⟨ka, a, vs, rfl, ra, sa⟩ := sqx_items (K := K) exs (r2.up g3)
    obtain ⟨kb, b, ws, rfl, rb, sb⟩ := sqx_items (K := K) eys r3
    refine ⟨ka, kb, a, b, vs, ws, rfl, sa H3 g3.bh, sb H3 g3.bh, by rw [ra.length]; exact hl, ?_⟩
    have fin : ∀ (p : Addr) (od : Obj) (u : HO), H3 p = none → Go B1 H1 (upd B3 p (.frz od u)) (upd (upd H3 p u) p (.frz od u)) := fun p od u hp => by
      have e0 : upd (upd H3 p u) p (.frz od u) = upd H3 p (.frz od u) := by
        funext c
        by_cases hc : c = p
        · subst hc; rw [upd_same, upd_same]
        · rw [upd_ne hc, upd_ne hc, upd_ne hc]
      rw [e0]
      exact (g2.trans g3).trans (Go.new g3.bh hp)
    have sm : ∀ (p : Addr) (o : HO), H3 p = none → Same B3 (upd B3 p o) := fun p o hp => same_lock (g3.bh.free hp)
    split at e
    · rename_i ks eks
      cases e
      refine .inl ⟨ks, ra.keys eks, fun p hp => ⟨p, _, rfl, upd_same, trivial, fun od => ?_⟩⟩
      exact q _ _ _ (fin p od _ hp) (.dic upd_same ((Rpk.merge ks rb .nil).kp (Kp.of (sm p _ hp))))
    · obtain ⟨ks, eks, e⟩ := map_some e
      subst e
      obtain ⟨bs, e1, e2, e3⟩ := ra.keysT eks
      refine .inr ⟨ks, bs, e1, e2, fun j k b h1 h2 => g3.bh _ _ (e3 j k b h1 h2), fun p hp => ⟨p, _, rfl, upd_same, trivial, fun od => ?_⟩⟩
      exact q _ _ _ (fin p od _ hp) (.dit upd_same ((Rpt.merge ks rb .nil).kp (Kp.of (sm p _ hp))))
  · cases e
/-! ### (a, b), c = .. -/
def unpQ {α : Type} (u : U) (f : U → U → U → Option α) : Option α := (unp2 u).bind fun ab => (unp2 ab.1).bind fun cd => f cd.1 cd.2 ab.2
theorem g_nest {α : Type} {K : PySem.W.Frag} {i j l : Nat} {u : U} {v : V} {B H : Hp} {σ : L2.St} {Q : L2.St → Hp → Prop} {f : U → U → U → Option α} {m : α} (s : Same B H) (r : Rp B u v) (e : unpQ u f = some m)
    (k : ∀ a b c x y z, Rp B a x → Rp B b y → Rp B c z → f a b c = some m → Q (((σ.set i (some x)).set j (some y)).set l (some z)) H) :
    gTup K 2 (gCons (gTup K 2 (gCons (gName i) (gCons (gName j) gNil))) (gCons (gName l) gNil)) v σ H Q := by
  obtain ⟨⟨ab, c⟩, e1, e⟩ := bind_some e
  obtain ⟨⟨a, b⟩, e2, e⟩ := bind_some e
  have e1 := unp2_tup e1
  subst e1
  have e2 := unp2_tup e2
  have e2 : ab = .tup [a, b] := e2
  subst e2
  cases r with
  | @tup ad _ vs h1 r =>
    cases r with
    | cons r1 t =>
      cases t with
      | cons r2 t =>
        cases t
        cases r1 with
        | @tup ad2 _ vs2 h2 rr =>
          cases rr with
          | cons q1 t =>
            cases t with
            | cons q2 t =>
              cases t
              exact ⟨ad, _, rfl, SqT.of (s _ _ h1), rfl, _, _, rfl, ad2, _, rfl, SqT.of (s _ _ h2), rfl, _, _, rfl, _, _, rfl, rfl, _, _, rfl, rfl, k a b c _ _ _ q1 q2 r2 e⟩
end Dn
set_option Elab.async false
set_option linter.all false
set_option maxRecDepth 100000
set_option maxHeartbeats 2000000
namespace Dn
open PySem PySem.Spec PyProof.Rows L2
variable [CTab]
/-! ### a written dict with text keys and ints: d.get(x, y) -/
def tKGet (K : PySem.W.Frag) (d : Addr) (ty tx : TE) : TE := fun σ H Q => ty σ H fun y H2 => tx σ H2 fun z H3 => ∃ (t : Str) (r : Option Value), y = .str t ∧ PySem.W.nsIn K d t = some r ∧ (∀ u0, r = some u0 → ∃ v0, RelV v0 u0 ∧ Q v0 H3) ∧ (r = none → Q z H3)
theorem pe_kget {X : Cx} {o e f : Expr} {apos cpos : Pos} {d : Addr} {es : Array DictEntry} {n : Nat} {ty tx : TE} (D : KDict X.K X.w d es n) (ho : PE X o (tC (.ref d))) (he : PE X e ty) (hf : PE X f tx) (m : M2 X o "get" apos e f cpos) :
    PE X (.Call (.Attribute o "get" apos) [e, f] [] cpos) (tKGet X.K d ty tx) := by
  refine ⟨fun pins s σ H Q I h => ?_⟩
  refine wpAny_Call_method m.base m.few m.line PySem.F.plainAttrs_dict PySem.F.slot_dict_get PySem.F.type_dict_get (thn (ho.run pins s σ H (fun v H' => v = .ref d ∧ H' = H) I ⟨rfl, rfl⟩) fun u s1 ⟨x, H1, I1, rx, ex, eH⟩ => ?_)
  subst ex eH
  obtain rfl : u = Value.ref d := rx
  have mp := PySem.W.mapOf_K (prog := X.prog) (w := X.w) I1.kIn D.at_ D.lit
  refine ⟨mp.typeIs, mp.noDict, ?_⟩
  rw [m.trees]
  refine Calls.callWith_builtin rfl (Calls.evalArgs_plain (Calls.spliced_cons (thn (he.run pins s1 σ H1 _ I1 h) fun iv s2 ⟨y, H2, I2, ry, q2⟩ => Calls.spliced_cons (thn (hf.run pins s2 σ H2 _ I2 q2) fun fv s3 ⟨z, H3, I3, rz, t, r, ey, er, q3, q4⟩ => Calls.spliced_nil ?_))))
  subst ey
  obtain ⟨tk, rfl⟩ := ry
  have mp3 := PySem.W.mapOf_K (prog := X.prog) (w := X.w) I3.kIn D.at_ D.lit
  refine call_meetsIn PySem.F.slot_dict_get mp3.typeIs PySem.F.entry_dict_get (PySem.F.args_dict_get_3 _ _ _) (meets_dict_get_default (PySem.strKind X.prog X.w) d (PySem.strKind_is X.prog X.w t tk) D.low fv) ⟨_, mp3, ?_⟩
  rw [PySem.W.find_K D.at_ er]
  cases r with
  | none => exact ⟨z, H3, I3.tok _, rz, q4 rfl⟩
  | some u0 =>
    obtain ⟨v0, rv, q⟩ := q3 u0 rfl
    exact ⟨v0, H3, I3.tok _, rv, q⟩
/-- what the table has, as data -/
def KTab (K : PySem.W.Frag) (d : Addr) (tab : List (Str × Int)) : Prop := ∀ t : Str, ∃ r, PySem.W.nsIn K d t = some r ∧ (∀ i, tab.lookup t = some i → ∃ tk, r = some (.int i tk)) ∧ (tab.lookup t = none → r = none)
def kgetV (tab : List (Str × Int)) : U → U → Option U
  | .str t, z => match tab.lookup t with
    | some i => some (.int i)
    | none => some z
  | _, _ => none
theorem eo_kget {K : PySem.W.Frag} {d : Addr} {tab : List (Str × Int)} {σ : L2.St} {B H : Hp} {ty tx : TE} {oa ob : Option U} (kt : KTab K d tab) (ha : EvO ty σ B H oa) (hb : EvO tx σ B H ob) : EvO (tKGet K d ty tx) σ B H (op2 (kgetV tab) oa ob) := fun z e B1 H1 g Q q => by
  obtain ⟨x, ex, e⟩ := bind_some e
  obtain ⟨y, ey, e⟩ := bind_some e
  refine ha x ex B1 H1 g _ fun v B2 H2 g2 r2 => hb y ey B2 H2 (g.trans g2) _ fun w B3 H3 g3 r3 => ?_
  cases r2 with
  | str t =>
    obtain ⟨r, er, h1, h2⟩ := kt t
    have e2 : (match tab.lookup t with | some i => some (U.int i) | none => some y) = some z := e
    clear e
    split at e2
    · rename_i i ei
      cases e2
      obtain ⟨tk, rfl⟩ := h1 i ei
      exact ⟨t, _, rfl, er, fun u0 e0 => by cases e0; exact ⟨.int i, ⟨tk, rfl⟩, q _ B3 H3 (g2.trans g3) (.int _)⟩, fun e0 => by cases e0⟩
    · rename_i ei
      cases e2
      exact ⟨t, r, rfl, er, (fun u0 e0 => by rw [h2 ei] at e0; cases e0), fun _ => q _ B3 H3 (g2.trans g3) r3⟩
  | _ => cases e
theorem tup1 {w0 : U} {rest : List U} (h : rest.length ≤ lim) : callO (c1 tupleV) (consO (slO (some (U.lst (w0 :: rest))) (ptO (some (U.int 1))) (some none)) (some [])) = some (U.tup rest) := by
  have e : slO (some (U.lst (w0 :: rest))) (ptO (some (U.int 1))) (some none) = some (U.lst rest) := cut1
  rw [e]
  rfl
theorem it1 {w0 : U} {rest : List U} : iterO U.iter (slO (some (U.lst (w0 :: rest))) (ptO (some (U.int 1))) (some none)) = some rest := by
  have e : slO (some (U.lst (w0 :: rest))) (ptO (some (U.int 1))) (some none) = some (U.lst rest) := cut1
  rw [e]
  rfl
end Dn
set_option Elab.async false
set_option linter.all false
set_option maxRecDepth 100000
set_option maxHeartbeats 2000000
namespace Dn
open PySem L2 PySem.Spec PyProof.Rows
/-! ### a written table -/
def entI (e : DictEntry) : Option (Str × Int) := match e.key, e.val with
  | .str x _, .int i _ => some (x, i)
  | _, _ => none
theorem ent_find {t : Str} : ∀ {es : List DictEntry} {tab : List (Str × Int)}, es.map entI = tab.map some →
    (∀ i, tab.lookup t = some i → ∃ e tk, es.find? (fun e => e.key.isStr t) = some e ∧ e.val = .int i tk) ∧ (tab.lookup t = none → es.find? (fun e => e.key.isStr t) = none) ∧ es.any (·.refKey) = false
  | [], [], _ => ⟨fun i h => (by cases h), fun _ => rfl, rfl⟩
  | [], _ :: _, h => by cases h
  | _ :: _, [], h => by cases h
  | e :: es, (k, n) :: tab, h => by
    rw [List.map_cons, List.map_cons] at h
    injection h with h1 h2
    obtain ⟨i1, i2, i3⟩ := ent_find (t := t) h2
    obtain ⟨eh, ek, ev⟩ := e
    unfold entI at h1
    simp only at h1
    split at h1
    · rename_i x tk i tk2
      cases h1
      have e3 : ((⟨eh, .str k tk, .int n tk2⟩ : DictEntry) :: es).any (·.refKey) = false := by
        rw [List.any_cons, i3]; rfl
      by_cases hk : t = k
      · subst hk
        have e1 : ((t, n) :: tab).lookup t = some n := by simp [List.lookup]
        have e2 : ((⟨eh, .str t tk, .int n tk2⟩ : DictEntry) :: es).find? (fun e => e.key.isStr t) = some ⟨eh, .str t tk, .int n tk2⟩ := by
          rw [List.find?_cons_of_pos]
          show (Value.str t tk).isStr t = true
          simp [Value.isStr]
        rw [e1, e2]
        exact ⟨fun i hi => by cases hi; exact ⟨_, tk2, rfl, rfl⟩, fun hi => (by cases hi), e3⟩
      · have e1 : ((k, n) :: tab).lookup t = tab.lookup t := by
          rw [List.lookup_cons]
          have : (t == k) = false := by simpa using hk
          rw [this]
        have e2 : ((⟨eh, .str k tk, .int n tk2⟩ : DictEntry) :: es).find? (fun e => e.key.isStr t) = es.find? (fun e => e.key.isStr t) := by
          rw [List.find?_cons_of_neg]
          show ¬ (Value.str k tk).isStr t = true
          simp [Value.isStr]
          exact fun z => hk z.symm
        rw [e1, e2]
        exact ⟨i1, i2, e3⟩
    · cases h1
theorem ktab_of {K : PySem.W.Frag} {d : Addr} {es : Array DictEntry} {n : Nat} {tab : List (Str × Int)} (h : K.lookup d = some ⟨.type "dict", none, .dict es n, #[]⟩) (e : es.toList.map entI = tab.map some) : KTab K d tab := fun t => by
  obtain ⟨i1, i2, i3⟩ := ent_find (t := t) e
  unfold PySem.W.nsIn
  rw [h]
  simp only
  cases q : tab.lookup t with
  | some i =>
    obtain ⟨en, tk, f1, f2⟩ := i1 i q
    rw [f1]
    exact ⟨_, rfl, fun j hj => by cases hj; exact ⟨tk, by rw [f2]⟩, fun z => by cases z⟩
  | none =>
    rw [i2 q, i3]
    exact ⟨none, rfl, fun j hj => (by cases hj), fun _ => rfl⟩
theorem kdict_of {K : PySem.W.Frag} {w : World} {d : Addr} {es : Array DictEntry} {n : Nat} (h : K.lookup d = some ⟨.type "dict", none, .dict es n, #[]⟩) (k : PySem.W.KeysLit w.params es.toList) (l : (d == sysModules) = false) : ∃ es n, KDict K w d es n := ⟨es, n, h, k, l⟩
/-! ### no list stands in the written part -/
def noList (K : PySem.W.Frag) : Bool := K.all fun p => match p.2.cls with
  | .type c => !(c == "list")
  | _ => true
theorem noList_sq {K : PySem.W.Frag} (h : noList K = true) {H : Hp} {a : Addr} {xs : List V} (s : SqL K H a xs) : Rd H a (.lst xs) := by
  rcases s with s | ⟨o, its, n, hk, hc, _⟩
  · exact s
  · exfalso
    have hm : (a, o) ∈ K := by
      clear h
      induction K with
      | nil => cases hk
      | cons p K ih =>
        obtain ⟨b, q⟩ := p
        rw [List.lookup_cons] at hk
        split at hk
        · rename_i e
          cases hk
          have : a = b := by simpa using e
          subst this
          exact List.mem_cons_self ..
        · exact List.mem_cons_of_mem _ (ih hk)
    have := List.all_eq_true.mp h _ hm
    rw [hc] at this
    exact absurd this (by decide)
/-! ### a law's promise -/
def spLaw : Sp := fun vs H Q _ => ∃ (a : Addr) (o : Obj) (ns : List Int), vs = [.ref a] ∧ H a = some (.frz o (.lst (ns.map V.int))) ∧ ns.length ≤ 63 ∧ ∀ H', Q (.bl true) H'
theorem spLaw_of [CTab] {m : U → Option U} (hm : ∀ ns : List Int, ns.length ≤ 63 → m (.frl (ns.map U.int)) = some (.bl true)) (vs : List V) (H : Hp) (Q : VK) (E : XK) (h : spLaw vs H Q E) : spU (a1 m) vs H Q E := by
  obtain ⟨a, o, ns, rfl, ha, hl, q⟩ := h
  refine ⟨upd (fun _ => none) a (.frz o (.lst (ns.map V.int))), [.frl (ns.map U.int)], .bl true, fun b u e => ?_, .cons (.frl upd_same (Rps.ints ns)) .nil, hm ns hl, fun v B2 H2 _ r => ?_⟩
  · by_cases hb : b = a
    · subst hb; rw [upd_same] at e; rw [ha]; exact e
    · rw [upd_ne hb] at e; cases e
  · cases r; exact q H2
theorem FnG.imp {P : Program} {w : World} {K : PySem.W.Frag} {mg : Str → Option Value} {base : Heap} {CX : CXT} {k : Nat} {f : Addr} {fd : FuncData} {ps : List Str} {sp sp' : Sp} (F : FnG P w K mg base CX k f fd ps sp) (h : ∀ vs H Q E, sp' vs H Q E → sp vs H Q E) : FnG P w K mg base CX k f fd ps sp' :=
  ⟨fun vs H Q E z => F.len vs H Q E (h _ _ _ _ z), fun A outer s H args us vs Q E hg hr he hb hv hs => F.run A outer s H args us vs Q E hg hr he hb hv (h _ _ _ _ hs)⟩
theorem walk_law {l : PySem.W.OpenLaw} {k : Nat} {q : Program} {loose : List Str} {XP : (Str → Option Value) → Heap → Prop} {YP : World → Heap → Prop} {d : DefRec} {K : Params → PySem.W.Frag} {x : Str}
    (hn : l.most = some 63) (df : d.params.defaults = []) (hr : Room k callerA) (hY : ∀ (w : World) (h : Heap), YP w h → (K w.params).In h) (hL : ∀ w : World, noList (K w.params) = true)
    (F : ∀ (w : World) (mg : Str → Option Value) (fa : Addr) (h : Heap), (K w.params).In h → h.Ns mainGlobals mg → mg d.name = some (.ref fa) →
      ∃ fd : FuncData, (∀ (s : Shared) (u : Value), BindsTo s fd ⟨[u], []⟩ [(x, u)]) ∧ ∀ base : Heap, (K w.params).In base → base.Ns mainGlobals mg → FnG l.prog w (K w.params) mg base CX0 k fa fd [x] spLaw) :
    PySem.W.WalkO q loose XP YP l.row.toRowW d [] (fun f vs => PySem.call f vs) := by
  refine Att.attach_call hn df fun w s0 s1 mg mb fa o pm cd doc a vs ns G Y ho hd hcd hmg ha hi hlen g0 => ?_
  have KX := hY w _ Y
  obtain ⟨fd, hb, hF⟩ := F w mg fa _ KX G.T.g hmg
  refine law_callG KX G.T.g G.T.b G.T.builtins G.T.nolimit g0 ha hi (Nat.le_trans hlen (by decide)) hr hF hb (fun H hO hS => ?_) fun H e s2 h => h
  rcases hO a with z | ⟨ob, xs, z⟩
  · rcases noList_sq (hL w) hS with y | ⟨_, y⟩
    · rw [z] at y; cases y
    · rw [z] at y; cases y
  · rcases noList_sq (hL w) hS with y | ⟨_, y⟩
    · rw [z] at y; cases y
    · exact ⟨a, _, ns, rfl, y, hlen, fun _ => rfl⟩
end Dn
set_option Elab.async false
set_option linter.all false
set_option maxRecDepth 100000
set_option maxHeartbeats 2000000
namespace Dn
open PySem L2
/-! ### the combinators, plainly -/
section
variable {α β : Type} {a b : U} {l : List U} {f : U → U → Option U} {us : List U}
@[simp] theorem op2_s : op2 f (some a) (some b) = f a b := rfl
@[simp] theorem op1_s {g : U → Option U} : op1 g (some a) = g a := rfl
@[simp] theorem callO_s {m : List U → Option U} : callO m (some l) = m l := rfl
@[simp] theorem consO_s : consO (some a) (some l) = some (a :: l) := rfl
@[simp] theorem isO_s {g : U → Option Bool} : isO g (some a) = (g a).map U.bl := rfl
@[simp] theorem testO_s {c : Bool} : testO (some (.bl c)) = some c := rfl
@[simp] theorem ifO_t {x y : Option α} : ifO (some true) x y = x := rfl
@[simp] theorem ifO_f {x y : Option α} : ifO (some false) x y = y := rfl
theorem ifO_s {x y : Option α} {c : Bool} : ifO (some c) x y = if c = true then x else y := rfl
@[simp] theorem andO_t {y : Option Bool} : andO (some true) y = y := rfl
@[simp] theorem andO_f {y : Option Bool} : andO (some false) y = some false := rfl
@[simp] theorem orO_t {y : Option Bool} : orO (some true) y = some true := rfl
@[simp] theorem orO_f {y : Option Bool} : orO (some false) y = y := rfl
theorem andO_s {x y : Bool} : andO (some x) (some y) = some (x && y) := by cases x <;> rfl
theorem orO_s {x y : Bool} : orO (some x) (some y) = some (x || y) := by cases x <;> rfl
@[simp] theorem notO_s {x : Bool} : notO (some x) = some (!x) := rfl
@[simp] theorem andV_t {y : Option U} : andV (some (.bl true)) y = y := rfl
@[simp] theorem andV_f {y : Option U} : andV (some (.bl false)) y = some (.bl false) := rfl
@[simp] theorem orV_t {y : Option U} : orV (some (.bl true)) y = some (.bl true) := rfl
@[simp] theorem orV_f {y : Option U} : orV (some (.bl false)) y = y := rfl
theorem andV_s {x y : Bool} : andV (some (.bl x)) (some (.bl y)) = some (.bl (x && y)) := by cases x <;> rfl
theorem orV_s {x y : Bool} : orV (some (.bl x)) (some (.bl y)) = some (.bl (x || y)) := by cases x <;> rfl
@[simp] theorem notV_s {x : Bool} : notV (some (.bl x)) = some (.bl (!x)) := rfl
theorem tupO_s (h : l.length ≤ lim) : tupO (some l) = some (.tup l) := by simp [tupO, h]
theorem lstO_s (h : l.length ≤ lim) : lstO (some l) = some (.lst l) := by simp [lstO, h]
@[simp] theorem tupO0 : tupO (some []) = some (.tup []) := rfl
@[simp] theorem tupO1 {x : U} : tupO (some [x]) = some (.tup [x]) := rfl
@[simp] theorem tupO2 {x y : U} : tupO (some [x, y]) = some (.tup [x, y]) := rfl
@[simp] theorem lstO0 : lstO (some []) = some (.lst []) := rfl
@[simp] theorem lstO1 {x : U} : lstO (some [x]) = some (.lst [x]) := rfl
@[simp] theorem lstO2 {x y : U} : lstO (some [x, y]) = some (.lst [x, y]) := rfl
@[simp] theorem slO_s {lo hi : Option Int} : slO (some a) (some lo) (some hi) = sliceV a lo hi := rfl
@[simp] theorem ptO_s {i : Int} : ptO (some (.int i)) = some (some i) := rfl
@[simp] theorem iterO_s {g : U → Option (List U)} : iterO g (some a) = g a := rfl
@[simp] theorem rngO_s {g : List U → Option (List U)} : rngO g (some l) = g l := rfl
@[simp] theorem compO_s {p : U → Option Bool} {g : U → Option U} : compO p g (some l) = lcO p g l := rfl
@[simp] theorem chainO_s {g g' : U → U → Option U} {c : U} {k : Bool} (h : g a b = some (.bl k)) : chainO g g' (some a) (some b) (some c) = if k = true then g' b c else some (.bl false) := by simp [chainO, h, U.asB]
@[simp] theorem addV_i {i j : Int} : addV (.int i) (.int j) = some (.int (i + j)) := rfl
@[simp] theorem subV_i {i j : Int} : subV (.int i) (.int j) = some (.int (i - j)) := rfl
@[simp] theorem ltV_i {i j : Int} : ltV (.int i) (.int j) = some (.bl (decide (i < j))) := rfl
@[simp] theorem leV_i {i j : Int} : leV (.int i) (.int j) = some (.bl (decide (i ≤ j))) := rfl
@[simp] theorem gtV_i {i j : Int} : gtV (.int i) (.int j) = some (.bl (decide (j < i))) := rfl
@[simp] theorem geV_i {i j : Int} : geV (.int i) (.int j) = some (.bl (decide (j ≤ i))) := rfl
@[simp] theorem negV_i {i : Int} : negV (.int i) = some (.int (-i)) := rfl
@[simp] theorem intV_i {i : Int} : c1 intV [.int i] = some (.int i) := rfl
@[simp] theorem absU_i {i : Int} : c1 absU [.int i] = some (.int (if i < 0 then -i else i)) := rfl
theorem mulV_r {i j : Int} (h : -(2 ^ 64) < j ∧ j < 2 ^ 64) : mulV (.int i) (.int j) = some (.int (i * j)) := by
  show (if (-(2 ^ 64) < i ∧ i < 2 ^ 64) ∨ (-(2 ^ 64) < j ∧ j < 2 ^ 64) then some (U.int (i * j)) else none) = _
  rw [if_pos (.inr h)]
theorem mulV_l {i j : Int} (h : -(2 ^ 64) < i ∧ i < 2 ^ 64) : mulV (.int i) (.int j) = some (.int (i * j)) := by
  show (if (-(2 ^ 64) < i ∧ i < 2 ^ 64) ∨ (-(2 ^ 64) < j ∧ j < 2 ^ 64) then some (U.int (i * j)) else none) = _
  rw [if_pos (.inl h)]
theorem modV_i {i j : Int} (h : 0 < j) : modV (.int i) (.int j) = some (.int (i % j)) := by
  show (if 0 < j then some (U.int (i % j)) else none) = _
  rw [if_pos h]
theorem fdivV_i {i j : Int} (h : 0 < j ∧ j < 1073741824) : fdivV (.int i) (.int j) = some (.int (i / j)) := by
  show (if 0 < j ∧ j < 1073741824 then some (U.int (i / j)) else none) = _
  rw [if_pos h]
theorem divmod_i {i j : Int} (h : 0 < j ∧ j < 1073741824) : divmodU [.int i, .int j] = some (.tup [.int (i / j), .int (i % j)]) := by
  show (if 0 < j ∧ j < 1073741824 then some (U.tup [.int (i / j), .int (i % j)]) else none) = _
  rw [if_pos h]
/-! the state -/
@[simp] theorem pureS_s {o : Option α} : pureS o us = o.map fun x => (x, us) := rfl
theorem bindS_s {F : SM α} {k : α → SM β} {x : α} {us1 : List U} (h : F us = some (x, us1)) : bindS F k us = k x us1 := by simp [bindS, h]
@[simp] theorem bindS_pure {x : α} {k : α → SM β} : bindS (pureS (some x)) k = k x := rfl
@[simp] theorem withK_s {κ : Type} {K : κ} {g : κ → α} : withK K g = g K := rfl
theorem ifS_s {c : SM Bool} {F G : SM α} {b : Bool} {us1 : List U} (h : c us = some (b, us1)) : ifS c F G us = if b = true then F us1 else G us1 := by
  simp only [ifS, bindS, h, Option.bind_some]
  cases b <;> rfl
theorem ifS_p {F G : SM α} {b : Bool} : ifS (pureS (some b)) F G us = if b = true then F us else G us := ifS_s rfl
theorem opS_s {F G : SM U} {us1 us2 : List U} {z : U} (h : F us = some (a, us1)) (h2 : G us1 = some (b, us2)) (h3 : f a b = some z) : opS f F G us = some (z, us2) := by
  simp [opS, bindS, h, h2, h3]
@[simp] theorem opS_p : opS f (pureS (some a)) (pureS (some b)) = pureS (f a b) := rfl
@[simp] theorem consS_p : consS (pureS (some a)) (pureS (some l)) = pureS (some (a :: l)) := rfl
@[simp] theorem callS_p {m : List U → Option U} : callS m (pureS (some l)) = pureS (m l) := rfl
@[simp] theorem testS_p : testS (pureS (some a)) = pureS a.asB := rfl
theorem consS_s {F : SM U} {G : SM (List U)} {us1 us2 : List U} (h : F us = some (a, us1)) (h2 : G us1 = some (l, us2)) : consS F G us = some (a :: l, us2) := by
  simp [consS, bindS, h, h2]
theorem lockO_s {j : Nat} {o : U → Option U} {u z : U} (h : us[j]? = some u) (hu : u.own = true) (ho : o u = some z) (hz : z.pl = true) : lockO j o us = some (z, us) := by
  simp [lockO, h, hu, ho, hz]
theorem lockT_s {j : Nat} {o : U → Option Bool} {u : U} {z : Bool} (h : us[j]? = some u) (hu : u.own = true) (ho : o u = some z) : lockT j o us = some (z, us) := by
  simp [lockT, h, hu, ho]
theorem callM_s {j : Nat} {m : U → List U → Option (U × U)} {xs : List U} {u r u' : U} (h : us[j]? = some u) (hu : u.own = true) (hm : m u xs = some (r, u')) : callM j m xs us = some (r, us.set j u') := by
  simp [callM, h, hu, hm]
end
theorem atI_nat' {α : Type} {xs : List α} {k : Nat} {x : α} (h : xs[k]? = some x) : atI xs (k : Int) = some x := by
  have hk : k < xs.length := (List.getElem?_eq_some_iff.mp h).1
  unfold atI ixN
  rw [if_pos (by omega), if_pos (by omega)]
  simpa using h
theorem atI_int {α : Type} {xs : List α} {i : Int} (h0 : 0 ≤ i) (h1 : i < xs.length) : ∃ x, atI xs i = some x ∧ xs[i.toNat]? = some x := by
  have hk : i.toNat < xs.length := by omega
  refine ⟨xs[i.toNat], ?_, by simp [hk]⟩
  unfold atI ixN
  rw [if_pos h0, if_pos h1]
  simp [hk]
theorem atI_neg1 {α : Type} {xs : List α} {x : α} : atI (xs ++ [x]) (-1) = some x := by
  unfold atI ixN
  rw [if_neg (by decide), if_pos (by simp; omega)]
  have : (-1 + ((xs ++ [x]).length : Int)).toNat = xs.length := by simp; omega
  rw [Option.bind_some, this]
  simp
def ct0 : CTab := ⟨fun i => i, fun _ _ h => h⟩
theorem get0n {w0 : U} {rest : List U} : getV (.lst (w0 :: rest)) (.int 0) = some w0 := @get0 ct0 _ _
theorem cut1n {w0 : U} {rest : List U} : sliceV (.lst (w0 :: rest)) (some 1) none = some (.lst rest) := @cut1 ct0 _ _
/-! ### comprehensions, plainly -/
theorem lcL_mf {α : Type} {p : U → Option Bool} {f : U → Option U} {g : α → U} {q : α → Bool} {h : α → U} : ∀ (l : List α), (∀ a ∈ l, p (g a) = some (q a)) → (∀ a ∈ l, q a = true → f (g a) = some (h a)) → lcL p f (l.map g) = some ((l.filter q).map h)
  | [], _, _ => rfl
  | a :: l, hp, hf => by
    have ih := lcL_mf (p := p) (f := f) l (fun b hb => hp b (List.mem_cons_of_mem _ hb)) (fun b hb => hf b (List.mem_cons_of_mem _ hb))
    have h1 := hp a (List.mem_cons_self ..)
    rw [List.map_cons]
    unfold lcL
    rw [h1, Option.bind_some]
    cases hq : q a with
    | true =>
      rw [if_pos rfl, hf a (List.mem_cons_self ..) hq, Option.bind_some, ih, Option.map_some, List.filter_cons, hq]
      rfl
    | false =>
      rw [if_neg Bool.false_ne_true, ih, List.filter_cons, hq]
      rfl
theorem lcO_mf {α : Type} {p : U → Option Bool} {f : U → Option U} {g : α → U} {q : α → Bool} {h : α → U} (l : List α) (hl : l.length ≤ lim) (hp : ∀ a ∈ l, p (g a) = some (q a)) (hf : ∀ a ∈ l, q a = true → f (g a) = some (h a)) : lcO p f (l.map g) = some (.lst ((l.filter q).map h)) := by
  unfold lcO
  rw [if_pos (by rw [List.length_map]; exact hl), lcL_mf l hp hf]
  rfl
theorem lcO_map {α : Type} {f : U → Option U} {g : α → U} {h : α → U} (l : List α) (hl : l.length ≤ lim) (hf : ∀ a ∈ l, f (g a) = some (h a)) : lcO (fun _ => some true) f (l.map g) = some (.lst (l.map h)) := by
  have := lcO_mf (p := fun _ => some true) (q := fun _ => true) l hl (fun _ _ => rfl) (fun a ha _ => hf a ha)
  rwa [List.filter_eq_self.mpr (fun _ _ => rfl)] at this
theorem bools_map {α : Type} {p : α → Bool} : ∀ l : List α, bools (l.map fun a => U.bl (p a)) = some (l.map p)
  | [] => rfl
  | a :: l => by
    show (bools (l.map fun a => U.bl (p a))).map (fun r => p a :: r) = _
    rw [bools_map l]
    rfl
theorem all_map {α : Type} {p : α → Bool} (l : List α) : c1 allV [.lst (l.map fun a => U.bl (p a))] = some (.bl (l.all p)) := by
  show (bools _).map (fun bs => U.bl (bs.all id)) = _
  rw [bools_map, Option.map_some, List.all_map]
  rfl
theorem any_map {α : Type} {p : α → Bool} (l : List α) : c1 anyV [.lst (l.map fun a => U.bl (p a))] = some (.bl (l.any p)) := by
  show (bools _).map (fun bs => U.bl (bs.any id)) = _
  rw [bools_map, Option.map_some, List.any_map]
  rfl
theorem strsU_map : ∀ ss : List Str, strsU (ss.map U.str) = some ss
  | [] => rfl
  | s :: ss => by
    show (strsU (ss.map U.str)).map (fun r => s :: r) = _
    rw [strsU_map ss]
    rfl
theorem join_lst {a : Str} {ss : List Str} (h : (ss.map (·.length)).sum + ss.length * a.length ≤ 16777216) : joinV (.str a) (.lst (ss.map U.str)) = some (.str (Txt.join a ss)) := by
  show ((strsU (ss.map U.str)).bind fun ss => if (ss.map (·.length)).sum + ss.length * a.length ≤ 16777216 then some (U.str (Txt.join a ss)) else none) = _
  rw [strsU_map, Option.bind_some, if_pos h]
theorem joinL_length (S : List Nat) : ∀ ps : List (List Nat), (TL.joinL S ps).length ≤ (ps.map (·.length)).sum + ps.length * S.length
  | [] => by simp [TL.joinL]
  | [p] => by simp [TL.joinL]
  | p :: q :: r => by
    have ih := joinL_length S (q :: r)
    show (p ++ (S ++ TL.joinL S (q :: r))).length ≤ _
    simp only [List.length_append, List.map_cons, List.sum_cons, List.length_cons, Nat.add_mul, Nat.one_mul] at ih ⊢
    omega
theorem join_length (a : Str) (ss : List Str) : (Txt.join a ss).length ≤ (ss.map (·.length)).sum + ss.length * a.length := by
  have h := joinL_length (TL.tl a) (ss.map TL.tl)
  rw [TL.join_eq, TL.len_tl, TL.tl_join]
  simp only [List.map_map, List.length_map] at h
  have e : (ss.map ((fun x => x.length) ∘ TL.tl)) = ss.map (·.length) := by
    apply List.map_congr_left
    intro s _
    exact (TL.len_tl s).symm
  rw [e, ← TL.len_tl a] at h
  exact h
theorem mem_joinL {S : List Nat} {c : Nat} : ∀ {ps : List (List Nat)}, c ∈ TL.joinL S ps → c ∈ S ∨ ∃ p ∈ ps, c ∈ p
  | [], h => by cases h
  | [p], h => .inr ⟨p, List.mem_singleton.mpr rfl, h⟩
  | p :: q :: r, h => by
    have h : c ∈ p ++ (S ++ TL.joinL S (q :: r)) := h
    rcases List.mem_append.mp h with h | h
    · exact .inr ⟨p, List.mem_cons_self .., h⟩
    · rcases List.mem_append.mp h with h | h
      · exact .inl h
      · rcases mem_joinL h with h | ⟨x, hx, h⟩
        · exact .inl h
        · exact .inr ⟨x, List.mem_cons_of_mem _ hx, h⟩
end Dn
set_option Elab.async false
set_option linter.all false
set_option maxRecDepth 100000
set_option maxHeartbeats 2000000
namespace Hall
/-! ### the marriage theorem, over lists -/
section
variable {α β : Type} [DecidableEq α] [DecidableEq β]
theorem filter_or {p q : α → Bool} : ∀ l : List α, (l.filter fun a => p a || q a).length = (l.filter p).length + (l.filter fun a => !p a && q a).length
  | [] => rfl
  | a :: l => by
    have ih := filter_or (p := p) (q := q) l
    simp only [List.filter_cons]
    cases hp : p a <;> cases hq : q a <;> simp [ih] <;> omega
theorem filter_erase {p : β → Bool} {b : β} : ∀ {l : List β}, l.Nodup → (l.filter p).length ≤ ((l.filter fun x => decide (x ≠ b)).filter p).length + 1
  | [], _ => by simp
  | x :: l, nd => by
    rw [List.nodup_cons] at nd
    have ih := filter_erase (p := p) (b := b) nd.2
    by_cases e : x = b
    · subst e
      have h1 : l.filter (fun y => decide (y ≠ x)) = l := List.filter_eq_self.mpr fun y hy => by
        simp only [decide_eq_true_eq]
        exact fun z => nd.1 (z ▸ hy)
      simp only [List.filter_cons, ne_eq, not_true_eq_false, decide_false, Bool.false_eq_true, if_false]
      simp only [ne_eq] at h1
      rw [h1]
      split <;> simp
    · simp only [List.filter_cons, ne_eq, e, not_false_eq_true, decide_true, if_true]
      simp only [ne_eq] at ih
      split
      · simp only [List.length_cons]; omega
      · exact ih
/-- the neighbours -/
def nb (adj : α → β → Bool) (R : List β) (A : List α) (P : α → Bool) : List β := R.filter fun b => A.any fun a => P a && adj a b
def HallC (adj : α → β → Bool) (R : List β) (A : List α) : Prop := ∀ P : α → Bool, (A.filter P).length ≤ (nb adj R A P).length
theorem any_filter {p q : α → Bool} {l : List α} : (l.filter p).any q = l.any fun a => p a && q a := by
  induction l with
  | nil => rfl
  | cons a l ih =>
    simp only [List.filter_cons, List.any_cons]
    cases hp : p a <;> simp [ih]
theorem hall [Inhabited β] (adj : α → β → Bool) : ∀ (n : Nat) (A : List α) (R : List β), A.length ≤ n → A.Nodup → R.Nodup → HallC adj R A → ∃ f : α → β, (∀ a ∈ A, f a ∈ R ∧ adj a (f a) = true) ∧ ∀ a ∈ A, ∀ b ∈ A, f a = f b → a = b := by
  intro n
  induction n with
  | zero =>
    intro A R hn _ _ hc
    have : A = [] := List.length_eq_zero_iff.mp (by omega)
    subst this
    exact ⟨fun _ => default, fun a h => (by cases h), fun a h => (by cases h)⟩
  | succ n ih =>
    intro A R hn nd ndR hc
    cases A with
    | nil => exact ⟨fun _ => default, fun a h => (by cases h), fun a h => (by cases h)⟩
    | cons a A' =>
      by_cases hs : ∀ P : α → Bool, (a :: A').filter P ≠ [] → (∃ x ∈ a :: A', P x = false) → ((a :: A').filter P).length < (nb adj R (a :: A') P).length
      · have nd' := List.nodup_cons.mp nd
        obtain ⟨b, hbR, hab⟩ : ∃ b ∈ R, adj a b = true := by
          have h1 := hc fun x => decide (x = a)
          have h2 : 0 < ((a :: A').filter fun x => decide (x = a)).length := by
            simp [List.filter_cons]
          have h3 : 0 < (nb adj R (a :: A') fun x => decide (x = a)).length := by omega
          obtain ⟨b, hb⟩ := List.exists_mem_of_length_pos h3
          obtain ⟨hb1, hb2⟩ := List.mem_filter.mp hb
          obtain ⟨x, _, hx⟩ := List.any_eq_true.mp hb2
          rw [Bool.and_eq_true] at hx
          have : x = a := of_decide_eq_true hx.1
          subst this
          exact ⟨b, hb1, hx.2⟩
        have hc' : HallC adj (R.filter fun x => decide (x ≠ b)) A' := by
          intro P
          by_cases he : A'.filter P = []
          · rw [he]; simp
          · let P' : α → Bool := fun x => P x && decide (x ≠ a)
            have e0 : P' a = false := by simp [P']
            have e2 : ∀ x ∈ A', P' x = P x := fun x hx => by
              have hxa : x ≠ a := fun z => nd'.1 (z ▸ hx)
              simp [P', hxa]
            have e1 : (a :: A').filter P' = A'.filter P := by
              rw [List.filter_cons, e0, if_neg Bool.false_ne_true]
              exact List.filter_congr e2
            have h1 := hs P' (by rw [e1]; exact he) ⟨a, List.mem_cons_self .., e0⟩
            rw [e1] at h1
            have e3 : nb adj R (a :: A') P' = R.filter fun b => A'.any fun x => P x && adj x b := by
              unfold nb
              congr 1
              funext b
              rw [List.any_cons, e0, Bool.false_and, Bool.false_or]
              rw [Bool.eq_iff_iff, List.any_eq_true, List.any_eq_true]
              exact ⟨fun ⟨x, hx, h⟩ => ⟨x, hx, by rw [← e2 x hx]; exact h⟩, fun ⟨x, hx, h⟩ => ⟨x, hx, by rw [e2 x hx]; exact h⟩⟩
            rw [e3] at h1
            have h2 := filter_erase (p := fun b => A'.any fun x => P x && adj x b) (b := b) ndR
            show _ ≤ ((R.filter fun x => decide (x ≠ b)).filter fun b => A'.any fun x => P x && adj x b).length
            omega
        rw [List.length_cons] at hn
        obtain ⟨f, hf1, hf2⟩ := ih A' _ (by omega) nd'.2 (ndR.filter _) hc'
        have hfb : ∀ x ∈ A', f x ∈ R ∧ f x ≠ b := fun x hx => by
          have := List.mem_filter.mp (hf1 x hx).1
          exact ⟨this.1, of_decide_eq_true this.2⟩
        refine ⟨fun x => if x = a then b else f x, fun x hx => ?_, fun x hx y hy e => ?_⟩
        · by_cases hxa : x = a
          · subst hxa; simp only [if_true]; exact ⟨hbR, hab⟩
          · simp only [if_neg hxa]
            have hx' : x ∈ A' := (List.mem_cons.mp hx).resolve_left hxa
            exact ⟨(hfb x hx').1, (hf1 x hx').2⟩
        · by_cases hxa : x = a
          · by_cases hya : y = a
            · rw [hxa, hya]
            · simp only [if_pos hxa, if_neg hya] at e
              exact absurd e.symm (hfb y ((List.mem_cons.mp hy).resolve_left hya)).2
          · by_cases hya : y = a
            · simp only [if_neg hxa, if_pos hya] at e
              exact absurd e (hfb x ((List.mem_cons.mp hx).resolve_left hxa)).2
            · simp only [if_neg hxa, if_neg hya] at e
              exact hf2 x ((List.mem_cons.mp hx).resolve_left hxa) y ((List.mem_cons.mp hy).resolve_left hya) e
      · obtain ⟨P, hne, ⟨x0, hx0, hPx0⟩, htight⟩ : ∃ P : α → Bool, (a :: A').filter P ≠ [] ∧ (∃ x ∈ a :: A', P x = false) ∧ ¬ ((a :: A').filter P).length < (nb adj R (a :: A') P).length := by
          apply Classical.byContradiction
          intro hh
          apply hs
          intro P h1 h2
          apply Classical.byContradiction
          intro h3
          exact hh ⟨P, h1, h2, h3⟩
        generalize a :: A' = A at *
        have hA : (A.filter P).length + (A.filter fun x => !P x).length = A.length := by
          have h := filter_or (p := P) (q := fun _ => true) A
          simp only [Bool.or_true, Bool.and_true] at h
          rw [List.filter_eq_self.mpr (fun _ _ => rfl)] at h
          omega
        have h1 : 0 < (A.filter P).length := List.length_pos_iff.mpr hne
        have h2 : 0 < (A.filter fun x => !P x).length := List.length_pos_iff.mpr fun z => by
          have : x0 ∈ A.filter fun x => !P x := List.mem_filter.mpr ⟨hx0, by rw [hPx0]; rfl⟩
          rw [z] at this; cases this
        have c1 : HallC adj R (A.filter P) := by
          intro Q
          have h := hc fun x => P x && Q x
          have e1 : (A.filter P).filter Q = A.filter fun x => P x && Q x := by
            rw [List.filter_filter]
            congr 1
            funext x
            rw [Bool.and_comm]
          have e2 : nb adj R (A.filter P) Q = nb adj R A fun x => P x && Q x := by
            unfold nb
            congr 1
            funext b
            rw [any_filter]
            congr 1
            funext x
            rw [Bool.and_assoc]
          rw [e1, e2]
          exact h
        have c2 : HallC adj (R.filter fun b => !(A.any fun x => P x && adj x b)) (A.filter fun x => !P x) := by
          intro Q
          have h := hc fun x => P x || Q x
          have e1 := filter_or (p := P) (q := Q) A
          have e2 : (A.filter fun x => !P x).filter Q = A.filter fun x => !P x && Q x := by
            rw [List.filter_filter]
            congr 1
            funext x
            rw [Bool.and_comm]
          have e3 : (nb adj R A fun x => P x || Q x) = R.filter fun b => (A.any fun x => P x && adj x b) || (A.any fun x => (!P x && Q x) && adj x b) := by
            unfold nb
            congr 1
            funext b
            rw [Bool.eq_iff_iff]
            simp only [Bool.or_eq_true, List.any_eq_true, Bool.and_eq_true]
            constructor
            · rintro ⟨x, hx, h, h'⟩
              rcases h with h | h
              · exact .inl ⟨x, hx, h, h'⟩
              · cases hp : P x with
                | true => exact .inl ⟨x, hx, hp, h'⟩
                | false => exact .inr ⟨x, hx, ⟨by rw [hp]; rfl, h⟩, h'⟩
            · rintro (⟨x, hx, h, h'⟩ | ⟨x, hx, ⟨_, h⟩, h'⟩)
              · exact ⟨x, hx, .inl h, h'⟩
              · exact ⟨x, hx, .inr h, h'⟩
          have e4 := filter_or (p := fun b => A.any fun x => P x && adj x b) (q := fun b => A.any fun x => (!P x && Q x) && adj x b) R
          have e5 : nb adj (R.filter fun b => !(A.any fun x => P x && adj x b)) (A.filter fun x => !P x) Q = R.filter fun b => !(A.any fun x => P x && adj x b) && (A.any fun x => (!P x && Q x) && adj x b) := by
            unfold nb
            rw [List.filter_filter]
            congr 1
            funext b
            rw [any_filter, Bool.and_comm]
            congr 2
            funext x
            rw [Bool.and_assoc]
          rw [e2, e5]
          rw [e3] at h
          have e6 : (nb adj R A P).length = (R.filter fun b => A.any fun x => P x && adj x b).length := rfl
          omega
        obtain ⟨f1, a1, a2⟩ := ih (A.filter P) R (by omega) (nd.filter _) ndR c1
        obtain ⟨f2, b1, b2⟩ := ih (A.filter fun x => !P x) _ (by omega) (nd.filter _) (ndR.filter _) c2
        have in1 : ∀ x ∈ A, P x = true → x ∈ A.filter P := fun x hx h => List.mem_filter.mpr ⟨hx, h⟩
        have in2 : ∀ x ∈ A, P x = false → x ∈ A.filter fun x => !P x := fun x hx h => List.mem_filter.mpr ⟨hx, by rw [h]; rfl⟩
        have cross : ∀ x ∈ A, ∀ y ∈ A, P x = true → P y = false → f1 x ≠ f2 y := fun x hx y hy h h' e => by
          have q1 := a1 x (in1 x hx h)
          have q2 := (List.mem_filter.mp (b1 y (in2 y hy h')).1).2
          rw [← e] at q2
          have : (A.any fun z => P z && adj z (f1 x)) = true := List.any_eq_true.mpr ⟨x, hx, by rw [h, q1.2]; rfl⟩
          rw [this] at q2
          cases q2
        refine ⟨fun x => if P x = true then f1 x else f2 x, fun x hx => ?_, fun x hx y hy e => ?_⟩
        · cases hp : P x with
          | true =>
            simp only [hp, if_true]
            exact a1 x (in1 x hx hp)
          | false =>
            simp only [hp, Bool.false_eq_true, if_false]
            have := b1 x (in2 x hx hp)
            exact ⟨(List.mem_filter.mp this.1).1, this.2⟩
        · cases hp : P x with
          | true =>
            cases hq : P y with
            | true =>
              simp only [hp, hq, if_true] at e
              exact a2 x (in1 x hx hp) y (in1 y hy hq) e
            | false =>
              simp only [hp, hq, if_true, Bool.false_eq_true, if_false] at e
              exact absurd e (cross x hx y hy hp hq)
          | false =>
            cases hq : P y with
            | true =>
              simp only [hp, hq, if_true, Bool.false_eq_true, if_false] at e
              exact absurd e.symm (cross y hy x hx hq hp)
            | false =>
              simp only [hp, hq, Bool.false_eq_true, if_false] at e
              exact b2 x (in2 x hx hp) y (in2 y hy hq) e
end
/-! ### one of each -/
section
variable {α : Type} [DecidableEq α]
def pick : List (List α) → List α → Prop
  | [], [] => True
  | a :: as, x :: xs => x ∈ a ∧ pick as xs
  | _, _ => False
theorem pick_map {β : Type} {g : β → α} {h : β → List α} : ∀ {L : List β}, (∀ b ∈ L, g b ∈ h b) → pick (L.map h) (L.map g)
  | [], _ => trivial
  | b :: L, hb => ⟨hb b (List.mem_cons_self ..), pick_map fun x hx => hb x (List.mem_cons_of_mem _ hx)⟩
theorem pick_length : ∀ {as : List (List α)} {e : List α}, pick as e → e.length = as.length
  | [], [], _ => rfl
  | a :: as, x :: xs, h => by rw [List.length_cons, List.length_cons, pick_length h.2]
  | [], _ :: _, h => h.elim
  | _ :: _, [], h => h.elim
theorem filter_mono {β : Type} {p q : β → Bool} (h : ∀ x, p x = true → q x = true) : ∀ l : List β, (l.filter p).length ≤ (l.filter q).length
  | [] => Nat.le_refl _
  | x :: l => by
    have ih := filter_mono h l
    simp only [List.filter_cons]
    cases hp : p x with
    | true => rw [h x hp]; simpa using ih
    | false => cases q x <;> simp <;> omega
theorem cover_count : ∀ {as : List (List α)} {e : List α} {S : List α}, pick as e → S.Nodup → (∀ s ∈ S, s ∈ e) → S.length ≤ (as.filter fun l => S.any fun s => decide (s ∈ l)).length
  | [], [], S, _, _, hs => by
    cases S with
    | nil => simp
    | cons s S => exact absurd (hs s (List.mem_cons_self ..)) (by simp)
  | a :: as, x :: xs, S, hp, nd, hs => by
    by_cases hx : x ∈ S
    · have hS : ∀ s ∈ S.erase x, s ∈ xs := fun s h => by
        have h1 := List.mem_of_mem_erase h
        have h2 : s ≠ x := fun z => by
          subst z
          exact (List.Nodup.not_mem_erase nd) h
        exact (List.mem_cons.mp (hs s h1)).resolve_left h2
      have ih := cover_count hp.2 (nd.erase x) hS
      have hl : (S.erase x).length = S.length - 1 := List.length_erase_of_mem hx
      have hpos : 0 < S.length := List.length_pos_of_mem hx
      have hm := filter_mono (p := fun l => (S.erase x).any fun s => decide (s ∈ l)) (q := fun l => S.any fun s => decide (s ∈ l)) (fun l h => by
        obtain ⟨s, h1, h2⟩ := List.any_eq_true.mp h
        exact List.any_eq_true.mpr ⟨s, List.mem_of_mem_erase h1, h2⟩) as
      have ha : (S.any fun s => decide (s ∈ a)) = true := List.any_eq_true.mpr ⟨x, hx, by simpa using hp.1⟩
      rw [List.filter_cons, ha, if_pos rfl, List.length_cons]
      omega
    · have hS : ∀ s ∈ S, s ∈ xs := fun s h => (List.mem_cons.mp (hs s h)).resolve_left fun z => hx (z ▸ h)
      have ih := cover_count hp.2 nd hS
      rw [List.filter_cons]
      split
      · rw [List.length_cons]; omega
      · exact ih
  | [], _ :: _, _, h, _, _ => h.elim
  | _ :: _, [], _, h, _, _ => h.elim
theorem pick_cover [Inhabited α] {as : List (List α)} (hne : ∀ l ∈ as, l ≠ []) {A : List α} (nd : A.Nodup) : (∃ e, pick as e ∧ ∀ a ∈ A, a ∈ e) ↔ ∀ P : α → Bool, (A.filter P).length ≤ (as.filter fun l => A.any fun a => P a && decide (a ∈ l)).length := by
  constructor
  · rintro ⟨e, he, hc⟩ P
    have := cover_count he (nd.filter P) fun s hs => hc s (List.mem_filter.mp hs).1
    simp only [any_filter] at this
    exact this
  · intro h
    have hz : as.zipIdx.map Prod.fst = as := List.zipIdx_map_fst 0 as
    have hnd : as.zipIdx.Nodup := by
      have h1 : (as.zipIdx.map Prod.snd).Nodup := by
        rw [List.zipIdx_map_snd]
        exact List.nodup_range'
      exact List.Pairwise.of_map (f := Prod.snd) (S := (· ≠ ·)) (fun a b hab e => hab (by rw [e])) h1
    have hc : HallC (fun (a : α) (b : List α × Nat) => decide (a ∈ b.1)) as.zipIdx A := by
      intro P
      have h1 := h P
      have e : (nb (fun (a : α) (b : List α × Nat) => decide (a ∈ b.1)) as.zipIdx A P).length = (as.filter fun l => A.any fun a => P a && decide (a ∈ l)).length := by
        conv => rhs; rw [← hz]
        rw [List.filter_map, List.length_map]
        rfl
      rw [e]
      exact h1
    obtain ⟨f, f1, f2⟩ := hall (fun (a : α) (b : List α × Nat) => decide (a ∈ b.1)) A.length A as.zipIdx (Nat.le_refl _) nd hnd hc
    let g : List α × Nat → α := fun b => match A.find? fun a => decide (f a = b) with
      | some a => a
      | none => b.1.headD default
    refine ⟨as.zipIdx.map g, ?_, fun a ha => ?_⟩
    · have := pick_map (g := g) (h := Prod.fst) (L := as.zipIdx) fun b hb => by
        show (match A.find? fun a => decide (f a = b) with
          | some a => a
          | none => b.1.headD default) ∈ b.1
        split
        · rename_i a ea
          have h1 := List.find?_some ea
          have h2 := List.mem_of_find?_eq_some ea
          have h3 := (f1 a h2).2
          rw [of_decide_eq_true h1] at h3
          exact of_decide_eq_true h3
        · have hb1 : b.1 ∈ as := by rw [← hz]; exact List.mem_map.mpr ⟨b, hb, rfl⟩
          have := hne _ hb1
          cases hl : b.1 with
          | nil => exact absurd hl this
          | cons x r => exact List.mem_cons_self ..
      rw [hz] at this
      exact this
    · refine List.mem_map.mpr ⟨f a, (f1 a ha).1, ?_⟩
      show (match A.find? fun a' => decide (f a' = f a) with
          | some a => a
          | none => (f a).1.headD default) = a
      split
      · rename_i a' ea
        have h0 := List.find?_some ea
        have h1 : f a' = f a := of_decide_eq_true h0
        exact f2 a' (List.mem_of_find?_eq_some ea) a ha h1
      · rename_i ea
        have := List.find?_eq_none.mp ea a ha
        simp at this
end
end Hall
set_option Elab.async false
set_option linter.all false
set_option maxRecDepth 100000
set_option maxHeartbeats 2000000
namespace Dn
open PySem PySem.Spec PyProof.Rows L2 PySem.SeqAt
variable [CTab]
/-! ### list.count of a text in a list of texts -/
def eqs (k : Str) (v : Value) : Bool := match v with
  | .str n _ => n == k
  | _ => false
theorem eqs_count {k : Str} : ∀ {us : List Value} {ns : List Str}, StrsAre us ns → us.countP (eqs k) = ns.count k
  | _, _, .nil => rfl
  | _, _, .cons n t h => by
    have ih := eqs_count (k := k) h
    rw [List.countP_cons, List.count_cons, ih] <;> rfl
theorem eqs_at {k : Str} {t : Tok} {A : Around} {s : Shared} : ∀ {us : List Value} {ns : List Str}, StrsAre us ns → ∀ y ∈ us, EqAt A s y (.str k t) (eqs k y)
  | _, _, .nil => fun y hy => by cases hy
  | _, _, .cons n t' h => fun y hy => by
    rcases List.mem_cons.mp hy with e | e
    · rw [e]
      exact EqAt.str_str n t' k t
    · exact eqs_at h y e
def rCntS (K : PySem.W.Frag) : V → List V → Hp → VK → Prop := fun x xs H Q => ∃ (p : Addr) (ns : List Str) (k : Str), x = .ref p ∧ xs = [.str k] ∧ SqL K H p (ns.map V.str) ∧ Q (.int (ns.count k : Nat)) H
section
variable {X : Cx}
theorem mt_lcountS : MtR X "list.count" (rCntS X.K) := by
  intro pins s σ H x xs v us Q I rx rxs h
  obtain ⟨p, ns, k, rfl, rfl, hs, q⟩ := h
  cases rx
  obtain ⟨u, rfl, ru⟩ := rxs.one
  obtain ⟨t, rfl⟩ := ru
  obtain ⟨its, rv, ⟨⟨cls, dd, data, sl⟩, n, ho, hc, hdn, hd⟩, hlen⟩ := I.list hs
  simp only at hc hd
  subst hc hd
  have hi := strs_of_vals rv
  refine call_meets PySem.F.slot_list_count ⟨_, ho, rfl⟩ PySem.F.entry_list_count (PySem.F.args_list_count_2 _ _)
    (SeqAt.list_countAt p its.toArray n dd sl (.str k t) (eqs k)) ⟨ho, fun y hy => eqs_at hi y (by simpa using hy), ?_⟩
  have ec : its.toArray.toList.countP (eqs k) = ns.count k := eqs_count hi
  refine ⟨.int (ns.count k : Nat), H, I.tok _, ⟨s.toks, ?_⟩, q⟩
  show Value.int ((its.toArray.toList.countP (eqs k) : Nat) : Int) s.toks = Value.int ((ns.count k : Nat) : Int) s.toks
  rw [ec]
theorem pe_countK {K : PySem.W.Frag} {o e : Expr} {es : List Expr} {apos cpos : Pos} {to : TE} {t : TA} (hK : X.K = K) (ho : PE X o to) (ha : PA X (e :: es) t) (hbase : attributeBase o "count" X.env (eval o X.env) = eval o X.env := by rfl)
    (hfew : ((backTo cpos (starEach (e :: es) X.env)).all (fun x => !x.1) && (backToKw cpos (keywordEach [] X.env)).all (fun x => x.1.isSome)
      && decide ((e :: es).length + ([] : List Keyword).length + (if ([] : List Keyword).isEmpty then 0 else 1) < 30)) = true := by rfl)
    (hline : (apos.endLine == cpos.line) = true := by rfl) (hs : starEach (e :: es) X.env = (false, eval e X.env) :: starEach es X.env := by rfl) (hplain : (backTo cpos (starEach es X.env)).any (·.1) = false := by rfl) :
    PE X (.Call (.Attribute o "count" apos) (e :: es) [] cpos) (tBM K "list" (rCntS K) to t) := hK ▸ pe_bm PySem.F.plainAttrs_list PySem.F.slot_list_count PySem.F.type_list_count mt_lcountS ho ha hbase hfew hline hs hplain
end
def countV : U → U → Option U
  | .lst xs, .str y => (strsU xs).map fun ss => .int (ss.count y : Nat)
  | .frl xs, .str y => (strsU xs).map fun ss => .int (ss.count y : Nat)
  | _, _ => none
section
variable {K : PySem.W.Frag} {σ : L2.St} {B H : Hp} {ta tb : TE} {oa ob : Option U}
theorem eo_count (ha : EvO ta σ B H oa) (hb : EvO tb σ B H ob) : EvO (tBM K "list" (rCntS K) ta (tCons tb tNil)) σ B H (op2 countV oa ob) := fun z e B1 H1 g Q q => by
  obtain ⟨x, ex, e⟩ := bind_some e
  obtain ⟨y, ey, e⟩ := bind_some e
  refine ha x ex B1 H1 g _ fun v B2 H2 g2 r2 => ?_
  cases r2 with
  | @lst a xs vs h r =>
    cases y with
    | str y =>
      obtain ⟨ss, es, e⟩ := map_some (show (strsU xs).map _ = some z from e)
      subst e
      have := r.strs es; subst this
      refine ⟨.inl ⟨rfl, _, SqL.of (g2.bh _ _ h)⟩, hb _ ey B2 H2 (g.trans g2) _ fun w B3 H3 g3 r3 => ?_⟩
      cases r3
      exact ⟨a, ss, y, rfl, rfl, SqL.of (g3.bh _ _ (g3.b _ _ h)), q _ B3 H3 (g2.trans g3) (.int _)⟩
    | _ => cases e
  | @frl a xs vs o h r =>
    cases y with
    | str y =>
      obtain ⟨ss, es, e⟩ := map_some (show (strsU xs).map _ = some z from e)
      subst e
      have := r.strs es; subst this
      refine ⟨.inl ⟨rfl, _, .inl (.inr ⟨o, g2.bh _ _ h⟩)⟩, hb _ ey B2 H2 (g.trans g2) _ fun w B3 H3 g3 r3 => ?_⟩
      cases r3
      exact ⟨a, ss, y, rfl, rfl, .inl (.inr ⟨o, g3.bh _ _ (g3.b _ _ h)⟩), q _ B3 H3 (g2.trans g3) (.int _)⟩
    | _ => cases e
  | _ => cases e
end
end Dn
set_option Elab.async false
set_option linter.all false
set_option maxRecDepth 100000
set_option maxHeartbeats 2000000
namespace Dn
open PySem PySem.Spec PyProof.Rows L2 PySem.SeqAt
variable [CTab]
/-! ### t.index(x) of a tuple of any data -/
def hitU (y u : U) : Bool := eqO dep u y == some true
def rTIdx : V → List V → Hp → VK → Prop := fun x ws H Q => ∃ (xs : List U) (y : U) (v : V) (a : Addr) (od : Obj) (vs : List V), ws = [v] ∧ x = .ref a ∧ H a = some (.frz od (.tup vs)) ∧ Rps H xs vs ∧ Rp H y v ∧ inO dep y xs = some true ∧ Q (.int (xs.findIdx (hitU y) : Nat)) H
theorem inO_def {n : Nat} {x : U} : ∀ {xs : List U} {b : Bool}, inO n x xs = some b → ∀ u ∈ xs, ∃ c, eqO n u x = some c
  | [], _, _, u, hu => nomatch hu
  | y :: ys, b, h, u, hu => by
    obtain ⟨a, ea, h⟩ := bind_some h
    obtain ⟨c, ec, h⟩ := map_some h
    rcases List.mem_cons.mp hu with e | e
    · subst e; exact ⟨a, ea⟩
    · exact inO_def ec u e
theorem inO_true {n : Nat} {x : U} : ∀ {xs : List U}, inO n x xs = some true → ∃ u ∈ xs, eqO n u x = some true
  | [], h => nomatch h
  | y :: ys, h => by
    obtain ⟨a, ea, h⟩ := bind_some h
    obtain ⟨c, ec, h⟩ := map_some h
    cases a with
    | true => exact ⟨y, List.mem_cons_self .., ea⟩
    | false =>
      have : c = true := by simpa using h
      subst this
      obtain ⟨u, hu, e⟩ := inO_true ec
      exact ⟨u, List.mem_cons_of_mem _ hu, e⟩
theorem rps_at {H : Hp} : ∀ {xs : List U} {vs : List V} {its : List Value}, Rps H xs vs → Vals vs its → ∀ (j : Nat) (p : Value), its[j]? = some p → ∃ u v, xs[j]? = some u ∧ Rp H u v ∧ RelV v p
  | _, _, _, .nil, .nil, j, p, h => by simp at h
  | _, _, _, .cons r t, .cons rv tv, 0, p, h => by
    simp at h; subst h
    exact ⟨_, _, rfl, r, rv⟩
  | _, _, _, .cons r t, .cons rv tv, j + 1, p, h => by
    simp only [List.getElem?_cons_succ] at h
    obtain ⟨u, v, e, r1, r2⟩ := rps_at t tv j p h
    exact ⟨u, v, by simpa using e, r1, r2⟩
theorem rps_len {H : Hp} : ∀ {xs : List U} {vs : List V} {its : List Value}, Rps H xs vs → Vals vs its → its.length = xs.length
  | _, _, _, .nil, .nil => rfl
  | _, _, _, .cons r t, .cons rv tv => by simp [rps_len t tv]
section
variable {X : Cx}
theorem mt_tidx (hu : X.A.units + 64 < cLine) : MtR X "tuple.index" rTIdx := by
  intro pins s σ H x ws v us Q I rx rxs h
  obtain ⟨xs, y, w, a, od, vs, rfl, rfl, hT, r, hy, hb, q⟩ := h
  · cases rx
    obtain ⟨u, rfl, ru⟩ := rxs.one
    obtain ⟨its, rv, pl, _⟩ := I.tuple (.inl (.inr ⟨od, hT⟩))
    obtain ⟨⟨cls, dd, dt, sl⟩, ho, hc, n, hd⟩ := pl
    simp only at hc hd
    subst hc hd
    obtain ⟨i1, i2⟩ := inO_any r rv hb
    have hlen := rps_len r rv
    obtain ⟨z, hz, ez⟩ := inO_true hb
    have hj : xs.findIdx (hitU y) < xs.length := List.findIdx_lt_length_of_exists ⟨z, hz, by simp [hitU, ez]⟩
    have hj2 : xs.findIdx (hitU y) < its.toArray.size := by rw [List.size_toArray, hlen]; exact hj
    have at_ : ∀ (m : Nat) (hm : m < its.toArray.size), ∃ c, eqO dep (xs[m]'(by rw [← hlen]; simpa using hm)) y = some c ∧ eqOf H dep y its.toArray[m] = c := fun m hm => by
      have hm2 : m < its.length := by simpa using hm
      obtain ⟨u1, v1, e1, r1, r2⟩ := rps_at r rv m its[m] (List.getElem?_eq_getElem hm2)
      have hm3 : m < xs.length := by omega
      have e2 : xs[m] = u1 := by rw [List.getElem?_eq_getElem hm3] at e1; exact Option.some.inj e1
      obtain ⟨c, ec⟩ := inO_def hb u1 (e2 ▸ List.getElem_mem hm3)
      refine ⟨c, by rw [e2]; exact ec, ?_⟩
      show eqOf H dep y its[m] = c
      exact eqOf_is r1 r2 ec
    refine call_meets PySem.F.slot_tuple_index ⟨_, ho, rfl⟩ PySem.F.entry_tuple_index (PySem.F.args_tuple_index_2 _ _) (TI.tuple_indexAt a its.toArray n dd sl u (eqOf H dep y) (xs.findIdx (hitU y)) hj2 ?_ ?_)
      ⟨ho, fun p hp => ?_, ⟨.int (xs.findIdx (hitU y) : Nat), H, I.tok _, ⟨_, rfl⟩, q⟩⟩
    · obtain ⟨c, e1, e2⟩ := at_ _ hj2
      have : hitU y xs[xs.findIdx (hitU y)] = true := List.findIdx_getElem
      rw [hitU, e1] at this
      rw [e2]
      simpa using this
    · intro m hm hmj
      obtain ⟨c, e1, e2⟩ := at_ m hm
      have : hitU y (xs[m]'(by omega)) = false := List.not_of_lt_findIdx hmj
      rw [hitU, e1] at this
      rw [e2]
      simpa using this
    · obtain ⟨u1, v1, c, r1, rv1, e1, e2⟩ := i2 p (by simpa using hp)
      rw [e2]
      refine eq_at e1 r1 hy rv1 ru (eq_rc I dep e1 r1 hy rv1 ru ?_).1
      show X.A.units + 1 + dep < cLine
      unfold dep; omega
/-- a method of a tuple made by the program -/
def tTM (r : V → List V → Hp → VK → Prop) (to : TE) (t : TA) : TE := fun σ H Q => to σ H fun x H1 => (∃ (p : Addr) (od : Obj) (vs : List V), x = .ref p ∧ H1 p = some (.frz od (.tup vs)) ∧ od.dict = none) ∧ t σ H1 fun xs H2 => r x xs H2 Q
theorem pe_tm {name : Str} {id : String} {r : V → List V → Hp → VK → Prop} {o e : Expr} {es : List Expr} {apos cpos : Pos} {to : TE} {t : TA} (slot : Slot "tuple" name id) (hty : typeOf (.builtin id) = pure (.type "method_descriptor")) (hm : MtR X id r) (ho : PE X o to) (ha : PA X (e :: es) t) (hbase : attributeBase o name X.env (eval o X.env) = eval o X.env := by rfl)
    (hfew : ((backTo cpos (starEach (e :: es) X.env)).all (fun x => !x.1) && (backToKw cpos (keywordEach [] X.env)).all (fun x => x.1.isSome)
      && decide ((e :: es).length + ([] : List Keyword).length + (if ([] : List Keyword).isEmpty then 0 else 1) < 30)) = true := by rfl)
    (hline : (apos.endLine == cpos.line) = true := by rfl) (hs : starEach (e :: es) X.env = (false, eval e X.env) :: starEach es X.env := by rfl) (hplain : (backTo cpos (starEach es X.env)).any (·.1) = false := by rfl) :
    PE X (.Call (.Attribute o name apos) (e :: es) [] cpos) (tTM r to t) := by
  constructor
  intro pins s σ H Q I h
  refine wpAny_Call_method_late hbase hfew hline rfl (thn (ho.run pins s σ H _ I h) ?_)
  rintro v s1 ⟨x, H1, I1, r1, ⟨p, od, vs, rfl, hp, hdn⟩, q1⟩
  cases r1
  obtain ⟨h0, _, its, _, ob, h1, hc, _⟩ := I1.hok p _ hp
  obtain rfl : od = ob := Option.some.inj (h0.symm.trans h1)
  refine ⟨"tuple", id, PySem.F.plainAttrs_tuple, slot, hty, ⟨od, h0, hc⟩, fun a ea => ?_, ?_⟩
  · cases ea
    exact ⟨od, h0, hdn⟩
  · have hA := ha.run cpos pins s1 σ H1 _ I1 q1
    rw [hs] at hA ⊢
    refine Calls.callWith_builtin ?_ (Calls.evalArgs_plain ?_)
    · change (false || (backTo cpos (starEach es X.env)).any (·.1)) = false
      rw [hplain]; rfl
    · exact thn hA fun us s2 ⟨ws, H2, I2, r2, q2⟩ => hm pins s2 σ H2 (.ref p) ws _ us Q I2 rfl r2 q2
end
end Dn
set_option Elab.async false
set_option linter.all false
set_option maxRecDepth 100000
set_option maxHeartbeats 2000000
namespace Dn
open PySem PySem.Spec PyProof.Rows L2
/-! ### tuple(list), with what the new object is -/
def rTupF (K : PySem.W.Frag) : List V → Hp → VK → Prop := fun xs H Q => ∃ (p : Addr) (ys : List V), xs = [.ref p] ∧ SqL K H p ys ∧ ∀ (l : Addr) (od : Obj), H l = none → od.dict = none → Q (.ref l) (upd H l (.frz od (.tup ys)))
section
variable {X : Cx}
theorem call_tupF {K : PySem.W.Frag} (hK : X.K = K) : CallR X (.type "tuple") (rTupF K) := by
  subst hK
  intro pins s σ H ws us Q I r h
  obtain ⟨p, ys, rfl, hq, q⟩ := h
  obtain ⟨_, rfl, rx⟩ := vals1 r
  cases rx
  obtain ⟨its, rr, pl, hz⟩ := I.list hq
  have ln := rr.length
  refine call_tuple_list pl.isList (fun h2 keep => ?_) (by simp only [List.size_toArray]; omega)
  have J : Inv X pins σ H { s with heap := h2 } := I.kept (t' := s.toks) keep
  have fr : H h2.objs.size = none := J.hok.fresh (Nat.le_refl _)
  refine ⟨.ref h2.objs.size, upd H h2.objs.size (.frz { cls := .type "tuple", data := .seq its.toArray } (.tup ys)), ?_, rfl, q _ _ fr rfl⟩
  exact J.laid (t' := s.toks) (fun b o e => Heap.get?_push_of_some _ e) (Nat.le_refl _) ⟨Heap.get?_push_size _ rfl, hz, its, rr, IsTup.new _ _⟩
end
end Dn
set_option Elab.async false
set_option linter.all false
set_option maxRecDepth 100000
set_option maxHeartbeats 2000000
namespace Dn
open PySem PySem.Spec PyProof.Rows L2
variable [CTab]
/-! ### the readings of tuple(list) and of t.index(x), for a tuple that is known -/
def tidxV : U → U → Option U
  | .tpd xs, y => (inO dep y xs).bind fun b => if b = true then some (.int (xs.findIdx (hitU y) : Nat)) else none
  | _, _ => none
theorem eo_tidx {σ : L2.St} {B H : Hp} {ta tb : TE} {oa ob : Option U} (ha : EvO ta σ B H oa) (hb : EvO tb σ B H ob) : EvO (tTM rTIdx ta (tCons tb tNil)) σ B H (op2 tidxV oa ob) := fun z e B1 H1 g Q q => by
  obtain ⟨x, ex, e⟩ := bind_some e
  obtain ⟨y, ey, e⟩ := bind_some e
  refine ha x ex B1 H1 g _ fun v B2 H2 g2 r2 => ?_
  cases r2 with
  | @tpd a xs vs o h hd r =>
    obtain ⟨b, eb, e⟩ := bind_some (show (inO dep y xs).bind _ = some z from e)
    split at e
    · rename_i hb1
      cases e
      subst hb1
      refine ⟨⟨a, o, vs, rfl, g2.bh _ _ h, hd⟩, hb _ ey B2 H2 (g.trans g2) _ fun w B3 H3 g3 r3 => ?_⟩
      exact ⟨xs, y, w, a, o, vs, rfl, rfl, g3.bh _ _ (g3.b _ _ h), (r.up g3).in g3.bh, r3.in g3.bh, eb, q _ B3 H3 (g2.trans g3) (.int _)⟩
    · cases e
  | _ => cases e
end Dn
set_option Elab.async false
set_option linter.all false
set_option maxRecDepth 100000
set_option maxHeartbeats 2000000
namespace Dn
open PySem PySem.Spec PyProof.Rows L2
/-! ### tuple(d.items()) of a locked dict -/
section
variable {prog : Program} {w : World} {A : Around} {E : Value → Shared → Prop} {s : Shared} {K : Type} [DecidableEq K] {knd : KeyKind prog w K} {kvs : List (K × Value)} {r d : Addr} {ep : Nat}
theorem code_tuple_new_items {Q₁ : Value → Shared → Prop} (hh : A.handled = none) (hv : s.heap.IsItemsView r d) (hm : s.heap.DictAt knd d kvs ep) (hn : kvs.length ≤ sizeLine)
    (h : ∀ (h' : Heap) (tk : Nat) (as : List Addr), (∀ b o, s.heap.get? b = some o → h'.get? b = some o) → as.length = kvs.length → PySem.W.KdxG knd kvs s.heap.objs.size h' as →
      Q₁ (.ref h'.objs.size) { s with heap := h'.push { cls := .type "tuple", data := .seq (as.map Value.ref).toArray }, toks := tk }) :
    codeAny (model prog w) A (.call (.builtin "tuple.__new__") ⟨[.type "tuple", .ref r], []⟩) (wants Q₁ E) s := by
  refine codeAny_of_tree ?_
  show wpAny _ A.in1 (do checkBuiltinCall "tuple.__new__" ⟨[.type "tuple", .ref r], []⟩; again (.builtin "tuple.__new__" ⟨[.type "tuple", .ref r], []⟩)) _ _ s
  refine wpAny_bind (wpAny_of_eq (F.newCall_tuple_1 _) (wpAny_pure ⟨plainId_quiet F.plain_tuple_new _, codeAny_builtin F.entry_tuple_new ?_⟩))
  rw [Around.under_plainId F.plain_tuple_new _]
  have hsub := sub_tuple_self
  have hinit := init_tuple_lookup
  have hmh := madeHere_tuple
  have hTI : s.TypeIs (.ref r) "dict_items" := by
    obtain ⟨o, ho, hc, _⟩ := hv
    exact ⟨o, ho, hc⟩
  have hh1 : A.in1.handled = none := hh
  wp_walk using wpAny_typeOf hTI, PySem.W.kdx_collect (A := A.in1) hh1 hv hm hn
  intro h' tk as hk hl hG
  show wpAny _ _ (Builtin.Tuple.tupleExact (as.map Value.ref).toArray >>= fun v => ret v) _ _ _
  unfold Builtin.Tuple.tupleExact
  refine wpAny_bind (wpAny_newObj_type ?_ (by show (as.map Value.ref).toArray.size ≤ sizeLine; simp only [List.size_toArray, List.length_map]; omega))
  refine wpAny_pure ?_
  exact h h' tk as hk hl hG
theorem call_tuple_items {Q : Value → Shared → Prop} (hh : A.handled = none) (hv : s.heap.IsItemsView r d) (hm : s.heap.DictAt knd d kvs ep) (hn : kvs.length ≤ sizeLine)
    (hQ : ∀ (h' : Heap) (tk : Nat) (as : List Addr), (∀ b o, s.heap.get? b = some o → h'.get? b = some o) → as.length = kvs.length → PySem.W.KdxG knd kvs s.heap.objs.size h' as →
      Q (.ref h'.objs.size) { s with heap := h'.push { cls := .type "tuple", data := .seq (as.map Value.ref).toArray }, toks := tk }) :
    wpAny (model prog w) A (call (.type "tuple") [.ref r]) Q E s := by
  refine callType_codes (Q₁ := fun obj s₁ => s₁.TypeIs obj "tuple" ∧ Q obj s₁) F.called_tuple (F.typeCall_tuple_1 _) F.entry_object_init
    (code_tuple_new_items (A := A.in1) hh hv hm hn fun h' tk acc hk hl hG => ⟨⟨_, Heap.get?_push_size _ rfl, rfl⟩, hQ h' tk acc hk hl hG⟩) fun obj s₁ h₁ => ?_
  exact ⟨h₁.1, F.args_object_init_2 obj _, object_init_meets F.called_tuple.init.lookup F.called_tuple.made (by decide) prog w A.in1 _ s₁ ⟨h₁.1, rfl, h₁.2⟩⟩
end
section
variable {X : Cx} {e : Expr} {te : TE} {p apos cpos pos : Pos}
theorem pairs_laid {pins : List (Addr × Obj)} {σ : L2.St} {H : Hp} {s : Shared} {h' : Heap} {tk : Nat} {kvs : List (Key × V)} {vs : List (Key × Value)} {lo : Nat} {as : List Addr} (I : Inv X pins σ H s) (kv : KV kvs vs)
    (hlo : s.heap.objs.size ≤ lo) (hk : ∀ b o, s.heap.get? b = some o → h'.get? b = some o) (hl : as.length = vs.length) (hG : PySem.W.KdxG (mixKind X.prog X.w) vs lo h' as) :
    (∀ b o, H b = some o → LiI.putT H as kvs b = some o) ∧ (∀ t ∈ as, H t = none) ∧ Paired (fun (t : Addr) (q : Key × V) => LiI.putT H as kvs t = some (.tup [kV q.1, q.2])) as kvs ∧ Inv X pins σ (LiI.putT H as kvs) { s with heap := h', toks := tk } := by
  have lk : kvs.length = vs.length := Paired.length kv
  have nd : as.Nodup := List.Pairwise.imp (fun {a b} (h : a < b) => Nat.ne_of_lt h) hG.rise
  have ab : ∀ t ∈ as, s.heap.objs.size ≤ t := fun t ht => Nat.le_trans hlo (Nat.le_of_lt (hG.above t ht))
  have new : ∀ t ∈ as, H t = none := fun t ht => I.hok.fresh (ab t ht)
  have atP := LiI.putT_at as kvs H (by omega) nd
  have low : ∀ b o, s.heap.get? b = some o → b ∉ as := fun b o e z => absurd (Heap.lt_size e) (Nat.not_lt.mpr (ab b z))
  have kp : ∀ b u, H b = some u → (LiI.putT H as kvs) b = some u := fun b u e => by
    rw [LiI.putT_off as kvs _ (fun z => by rw [new b z] at e; cases e)]
    exact e
  refine ⟨kp, new, atP, ?_⟩
  refine I.call' (ch := []) rfl ⟨fun b o q _ _ _ => hk b o q, fun b o q _ _ _ => ⟨o.slots, hk b o q⟩, fun b o q n _ => ?_, fun b o q _ => ⟨o, hk b o q⟩, fun b xs q => kp b _ q, fun b o u q => kp b _ q, fun b ps q => ⟨#[], by rw [kp b _ q]; simp⟩⟩ (fun b u q => ?_) I.bare fun b z => by simp at z
  · rw [LiI.putT_off as kvs _ (low b o q)]
    exact n
  · by_cases hb : b ∈ as
    · obtain ⟨j, pk, e1, e2, e3⟩ := LiI.paired_ix atP hb
      rw [e3] at q
      cases q
      obtain ⟨key, k, x, f1, f2, f3⟩ := hG.pairs j b e1
      obtain ⟨qv, g1, g2, g3⟩ := LiI.paired_get kv e2
      rw [f1] at g1
      cases g1
      have rk : RelV (kV pk.1) key := by
        rw [g2]
        exact relV_key (show keyIs k key = true from f2)
      exact ⟨by show 2 ≤ sizeLine; decide, [key, x], .cons rk (.cons g3 .nil), ⟨_, f3, rfl, _, rfl⟩⟩
    · rw [LiI.putT_off as kvs _ hb] at q
      exact (I.hok b u q).stay (fun d v _ y => hk d v y) (fun d y => kp d _ y) fun d xs y => kp d _ y
def rItemsT2 : V → Hp → VK → Prop := fun x H Q => ∃ (d : Addr) (o : Obj) (kvs : List (Key × V)), x = .ref d ∧ H d = some (.frz o (.dK kvs)) ∧
  ∀ (H' : Hp) (p : Addr) (ts : List Addr), (∀ b o, H b = some o → H' b = some o) → H p = none → (∀ t ∈ ts, H t = none) → p ∉ ts → H' p = some (.tup (ts.map V.ref)) → Paired (fun (t : Addr) (q : Key × V) => H' t = some (.tup [kV q.1, q.2])) ts kvs → Q (.ref p) H'
def tTupItems (te : TE) : TE := fun σ H Q => te σ H fun x H1 => rItemsT2 x H1 Q
theorem pe_tupItems (hc : X.calm = true) (he : PE X e te) (hg : Gl X "tuple") (hm : X.mg "tuple" = none) (hv : bootBuiltins "tuple" = some (.type "tuple")) (hbase : attributeBase e "items" X.env (eval e X.env) = eval e X.env := by rfl) (hline : (apos.endLine == cpos.line) = true := by rfl)
    (hs : starEach [.Call (.Attribute e "items" apos) [] [] cpos] X.env = (false, eval (.Call (.Attribute e "items" apos) [] [] cpos) X.env) :: starEach [] X.env := by rfl) :
    PE X (.Call (.Name "tuple" p) [.Call (.Attribute e "items" apos) [] [] cpos] [] pos) (tTupItems te) := by
  refine ⟨fun pins s σ H Q I hq => ?_⟩
  refine wpAny_Call_Name_kw (ld_blt I hg hm hv ?_)
  refine PyProof.Rows.callWith_type1 ?_ hs rfl
  rw [hs]
  show wpAny _ _ (spliced ((false, eval (.Call (.Attribute e "items" apos) [] [] cpos) X.env) :: backTo pos (starEach [] X.env))) _ _ s
  refine Calls.spliced_cons ?_
  refine wpAny_Call_method (T := "dict") (id := "dict.items") hbase rfl hline F.plainAttrs_dict F.slot_dict_items F.type_dict_items (thn (he.run pins s σ H _ I hq) fun u s1 ⟨x, H1, I1, rx, d, o, kvs, ex, hd, q⟩ => ?_)
  subst ex
  obtain rfl : u = Value.ref d := rx
  obtain ⟨hs0, hgd, hx, es, ep, vs, hdt, hsz, kv, hat⟩ := I1.frzK hd
  have hdo := hat.dictOf
  have hz : kvs.length ≤ sizeLine := by
    obtain ⟨_, z, _⟩ := I1.hok d _ hd
    exact z
  have lk : kvs.length = vs.length := Paired.length kv
  have I2 : Inv X pins σ H1 { s1 with heap := s1.heap.push { cls := .type "dict_items", data := .fields #[.ref d] } } := I1.kept (t' := s1.toks) fun b ob q => Heap.get?_push_of_some _ q
  refine ⟨hdo.typeIs, hdo.mapOf.noDict, ?_⟩
  show wpAny _ _ (callWith cpos (.builtin "dict.items") [.ref d] [] []) _ X.xe s1
  refine method_meetsIn F.slot_dict_items F.entry_dict_items rfl (PySem.evalArgs_none ⟨rfl, hdo.typeIs, F.args_dict_items_1 _, _, meets_dict_items (mixKind X.prog X.w) d hs0, ⟨vs, hdo⟩, ?_⟩)
  refine Calls.spliced_nil ?_
  refine call_tuple_items (knd := mixKind X.prog X.w) (kvs := vs) (ep := ep) (I1.ok.hd hc) ⟨_, Heap.get?_push_size _ rfl, rfl, rfl⟩ (hat.push _) (by omega) fun h' tk as hk hl hG => ?_
  obtain ⟨k1, k2, k3, J⟩ := pairs_laid (tk := tk) I2 kv (Nat.le_refl _) hk hl hG
  have fr : LiI.putT H1 as kvs h'.objs.size = none := J.hok.fresh (Nat.le_refl _)
  have hp : h'.objs.size ∉ as := fun z => Nat.lt_irrefl _ (hG.there z)
  have frH : H1 h'.objs.size = none := by rw [← LiI.putT_off as kvs H1 hp]; exact fr
  have J2 : Inv X pins σ (upd (LiI.putT H1 as kvs) h'.objs.size (.tup (as.map V.ref))) { s1 with heap := h'.push { cls := .type "tuple", data := .seq (as.map Value.ref).toArray }, toks := tk } :=
    J.laid (t' := tk) (fun b o e => Heap.get?_push_of_some _ e) (Nat.le_refl _) (show ObjOk X.prog X.w _ _ _ (.tup (as.map V.ref)) from ⟨by rw [List.length_map]; omega, as.map Value.ref, LiI.vals_refs as, IsTup.new _ _⟩)
  refine ⟨.ref h'.objs.size, _, J2, rfl, q _ _ as (fun b o e => ?_) frH k2 hp upd_same ?_⟩
  · rw [upd_ne (fun z => by rw [z, frH] at e; cases e)]; exact k1 b o e
  · have : ∀ {ts : List Addr} {qs : List (Key × V)}, (∀ t ∈ ts, t ≠ h'.objs.size) → Paired (fun (t : Addr) (q : Key × V) => LiI.putT H1 as kvs t = some (.tup [kV q.1, q.2])) ts qs → Paired (fun (t : Addr) (q : Key × V) => upd (LiI.putT H1 as kvs) h'.objs.size (.tup (as.map V.ref)) t = some (.tup [kV q.1, q.2])) ts qs := by
      intro ts qs hne P
      induction P with
      | nil => exact .nil
      | cons h t ih => exact .cons (by rw [upd_ne (hne _ (List.mem_cons_self ..))]; exact h) (ih fun t ht => hne t (List.mem_cons_of_mem _ ht))
    exact this (fun t ht z => hp (z ▸ ht)) k3
end
variable [CTab]
def itemsV : U → Option U
  | .dic kvs => some (.tup (kvs.map fun kv => .tup [kU kv.1, kv.2]))
  | _ => none
theorem rps_pairs {B2 : Hp} : ∀ {kvs : List (Key × U)} {es : List (Key × V)} {ts : List Addr}, Rpk B2 kvs es → Paired (fun (t : Addr) (q : Key × V) => B2 t = some (.tup [kV q.1, q.2])) ts es → Rps B2 (kvs.map fun kv => U.tup [kU kv.1, kv.2]) (ts.map V.ref)
  | _, _, _, .nil, .nil => .nil
  | _, _, _, .cons r t, .cons h q => .cons (.tup h (.cons (rp_key _) (.cons r .nil))) (rps_pairs t q)
theorem eo_tupItems {σ : L2.St} {B H : Hp} {te : TE} {oa : Option U} (ha : EvO te σ B H oa) : EvO (tTupItems te) σ B H (oa.bind itemsV) := fun z e B1 H1 g Q q => by
  obtain ⟨x, ex, e⟩ := bind_some e
  refine ha x ex B1 H1 g _ fun v B2 H2 g2 r2 => ?_
  cases r2 with
  | @dic a kvs es o h r =>
    cases e
    refine ⟨a, o, es, rfl, g2.bh _ _ h, fun H' p ts hk hp hts hpt hH hP => ?_⟩
    have gn : Go B2 H2 (lay (p :: ts) H' B2) H' := by
      refine ⟨hk, fun b u e => ?_, fun b u e => ?_, fun b u e => ?_⟩
      · rw [lay_out (fun z => by
          have : H2 b = none := by
            rcases List.mem_cons.mp z with z | z
            · rw [z]; exact hp
            · exact hts b z
          rw [g2.bh b u e] at this; cases this)]
        exact e
      · by_cases hb : b ∈ p :: ts
        · rw [lay_in hb] at e; exact e
        · rw [lay_out hb] at e; exact hk _ _ (g2.bh _ _ e)
      · by_cases hb : b ∈ p :: ts
        · right
          rcases List.mem_cons.mp hb with z | z
          · rw [z]; exact hp
          · exact hts b z
        · rw [lay_out hb] at e; exact .inl e
    refine q _ _ _ (g2.trans gn) (.tup (by rw [lay_in (List.mem_cons_self ..)]; exact hH) ?_)
    refine rps_pairs (r.kp (Kp.of gn.b)) ?_
    have : ∀ {as : List Addr} {qs : List (Key × V)}, (∀ t ∈ as, t ∈ p :: ts) → Paired (fun (t : Addr) (q : Key × V) => H' t = some (.tup [kV q.1, q.2])) as qs → Paired (fun (t : Addr) (q : Key × V) => lay (p :: ts) H' B2 t = some (.tup [kV q.1, q.2])) as qs := by
      intro as qs hne P
      induction P with
      | nil => exact .nil
      | cons h t ih => exact .cons (by rw [lay_in (hne _ (List.mem_cons_self ..))]; exact h) (ih fun t ht => hne t (List.mem_cons_of_mem _ ht))
    exact this (fun t ht => List.mem_cons_of_mem _ ht) hP
  | _ => cases e
end Dn
set_option Elab.async false
set_option linter.all false
set_option maxRecDepth 100000
set_option maxHeartbeats 2000000
namespace Dn
open PySem PySem.Spec PyProof.Rows L2
/-! ### ==, !=, str, repr, bool of an instance whose class has its own defs for them -/
section
variable {prog : Program} {w : World} {A : Around} {E : Value → Shared → Prop} {s : Shared} {K : PySem.W.Frag} {x C L f : Addr} {h₀ : Heap} {m : Str → Option Value} {ox : Obj} {od : Option Obj} {b tb : Value}
open PySem.W PySem.Builtin in
theorem ne_K {Q : Value → Shared → Prop} (hu : A.units + 1 < cLine) (X : K.In s.heap) (I : InstAt s.heap x ox C od) (hb : Looks (model prog w) s.heap (typeOf b) tb) (hn : notFirst K C tb = true)
    (hne : findIn K (.ref C) "__ne__" = some (some (.builtin "object.__ne__"))) (hob : mroIn K C (.type "object") = some true)
    (hs : findIn K (.ref C) "__eq__" = some (some (.ref f))) (hf : isFn K (.ref f) = true)
    (h : wpAny (model prog w) A.in1 (call (.ref f) [.ref x, b]) (fun v s' => ∃ r, v = .bool r ∧ Q (.bool (!r)) s') E s) : wpAny (model prog w) A (richCompare .NotEq (.ref x) b) Q E s := by
  have inst : Looks (model prog w) s.heap (isInstance (.ref x) (.type "object")) true := I.type.andThen (looks_mroIn X hob)
  have entry : wpAny (model prog w) A.in1 (Builtin.«object.__ne__» ⟨[.ref x, b], []⟩) (GQ.FinOf prog w A (wants (fun v s' => v ≠ .notImplemented ∧ Q v s') E)) (fun e s' => wants (fun v s' => v ≠ .notImplemented ∧ Q v s') E (.error e) s') s := by
    unfold Builtin.«object.__ne__»
    repeat (first
      | with_reducible refine wpAny_cRoomFor hu ?_
      | (refine wpAny_bind (m := callSpecialIfBound? (.ref x) (Str.ofString "__eq__") [b])
          (ifBound_K X I hs hf (wpAny_mono h (fun r s' hr => by
            obtain ⟨b, rfl, hq⟩ := hr
            have hq2 : (Value.bool (!b)) ≠ .notImplemented ∧ Q (.bool (!b)) s' := ⟨(fun z => nomatch z), hq⟩
            repeat (first | exact hq2 | exact wpAny_pure hq2 | exact wpAny_truthy_bool hq2 | (refine wpAny_bind (m := truthy (.bool _)) (wpAny_truthy_bool ?_)) | wp_step)) fun _ _ e => e)))
      | wp_step)
  have one : wpAny (model prog w) A (tryCompare (.ref x) "__ne__" b) (fun r s' => ∃ v, r = some v ∧ Q v s') E s := by
    have bnd : wpAny (model prog w) A (callSpecialIfBound? (.ref x) "__ne__" [b]) (fun r s' => ∃ v, r = some v ∧ v ≠ .notImplemented ∧ Q v s') E s := by
      simp only [callSpecialIfBound?, bindSpecialIfBound?]
      refine wpAny_holding (wpAny_bind (wpAny_bind (wpAny_bind (I.type.here ((looks_findIn X hne).here ?_)))))
      simp only [PySem.F.cmp_object.ne.bind]
      refine wpAny_bind (wpAny_askSetting (wpAny_ite ?_))
      have cl : wpAny (model prog w) A (call (.builtin "object.__ne__") [.ref x, b]) (fun v s' => v ≠ .notImplemented ∧ Q v s') E s :=
        wpAny_call (codeAny_call_builtin PySem.F.cmp_object.ne.plain PySem.F.cmpEntry_ne (check_slot PySem.F.cmpKind_ne PySem.F.cmpSplit_ne inst (PySem.F.cmpArgs_ne _ _) entry))
      have fin : wpAny (model prog w) A (call (.builtin "object.__ne__") ([.ref x] ++ [b]) >>= fun v => pure (some v)) (fun r s' => ∃ v, r = some v ∧ v ≠ .notImplemented ∧ Q v s') E s :=
        wpAny_bind (wpAny_mono cl (fun v s' h' => wpAny_pure ⟨v, rfl, h'⟩) fun _ _ h' => h')
      split
      · exact wpAny_bind (wpAny_pure (wpAny_pure fin))
      · exact wpAny_tryCatch (wpAny_bind (wpAny_pure (wpAny_pure fin)))
    unfold tryCompare
    refine wpAny_bind (wpAny_mono bnd (fun r s' hr => ?_) fun _ _ e => e)
    obtain ⟨v, rfl, hv, hq⟩ := hr
    cases v <;> first | exact absurd rfl hv | exact wpAny_pure ⟨_, rfl, hq⟩
  unfold richCompare
  simp only [oneThing_ref]
  refine wpAny_holding (wpAny_bind (wpAny_cRoomFor (Nat.lt_of_succ_lt hu) ?_))
  refine wpAny_bind (I.type.here (wpAny_bind (hb.here ?_)))
  split
  · rename_i q
    have e : subIn K tb (.ref C) = some false := by
      rcases Bool.or_eq_true_iff.mp hn with e | e
      · rw [beq_iff_eq.mp e] at q; simp at q
      · exact beq_iff_eq.mp e
    refine wpAny_bind ((looks_subIn X e).here ?_)
    simp only [Bool.false_eq_true, if_false]
    refine wpAny_bind (wpAny_mono one (fun r s' z => ?_) fun _ _ e => e)
    obtain ⟨v, rfl, hq⟩ := z
    exact wpAny_pure hq
  · refine wpAny_bind (wpAny_pure ?_)
    simp only [Bool.false_eq_true, if_false]
    refine wpAny_bind (wpAny_mono one (fun r s' z => ?_) fun _ _ e => e)
    obtain ⟨v, rfl, hq⟩ := z
    exact wpAny_pure hq
end
/-- what the heap part tells of a class with its own ==, str, repr -/
structure OwnC (K : PySem.W.Frag) (C : Addr) : Prop where
  cls : Cls K C
  ha : PySem.W.findIn K (.ref C) "__class__" = some (some (.builtin "object.__class__"))
  hn : PySem.W.specialIn K (.builtin "object.__class__") "__get__" = some (some (.builtin "getset_descriptor.__get__"))
  htk : PySem.W.takesIn K (.builtin "object.__class__") = some true
  hm : PySem.W.mroIn K C (.type "object") = some true
  ne : PySem.W.findIn K (.ref C) "__ne__" = some (some (.builtin "object.__ne__"))
  bo : PySem.W.findIn K (.ref C) "__bool__" = some none
  le : PySem.W.findIn K (.ref C) "__len__" = some none
  tt : PySem.W.typeIn K (.ref C) = some (.type "type")
theorem OwnC.cl {K : PySem.W.Frag} {C : Addr} (o : OwnC K C) : ((PySem.W.clsIn K C).isSome && PySem.W.typeIn K (.ref C) == some (.type "type")) = true := by
  obtain ⟨cd, hc, _⟩ := PySem.W.any_some o.cls.hd
  rw [hc, o.tt]
  rfl
/-- the types that may stand on the right -/
def baseTy (t : String) : Prop := t ∈ ["NoneType", "bool", "int", "str", "list", "tuple", "dict"]
theorem sub_base (K : PySem.W.Frag) (C : Addr) {t : String} (h : baseTy t) : PySem.W.subIn K (.type t) (.ref C) = some false := by
  simp only [baseTy, List.mem_cons, List.not_mem_nil, or_false] at h
  rcases h with rfl | rfl | rfl | rfl | rfl | rfl | rfl <;> rfl
section
variable {K : PySem.W.Frag} {H : Hp} {C : Addr}
inductive TyR (K : PySem.W.Frag) (H : Hp) (C : Addr) : V → Value → Prop
  | base {v : V} {t : String} : TyX K H v (.type t) → baseTy t → TyR K H C v (.type t)
  | own {v : V} : TyX K H v (.ref C) → TyR K H C v (.ref C)
theorem TyR.tyx {v : V} {t : Value} (h : TyR K H C v t) : TyX K H v t := by
  cases h with
  | base h _ => exact h
  | own h => exact h
theorem TyR.first {v : V} {t : Value} (h : TyR K H C v t) : PySem.W.notFirst K C t = true := by
  unfold PySem.W.notFirst
  cases h with
  | base h b => rw [sub_base K C b]; simp
  | own h => simp
theorem TyR.kit {v : V} {t : Value} (o : OwnC K C) (h : TyR K H C v t) : PySem.W.kitOne K t (.ref C) = some (t == .ref C) := by
  unfold PySem.W.kitOne PySem.W.kitCls
  cases h with
  | @base t h b =>
    have e : (Value.type t == Value.ref C) = false := Bool.eq_false_iff.mpr fun q => by cases beq_iff_eq.mp q
    rw [e, if_neg (by decide)]
    show (if ((PySem.W.clsIn K C).isSome && PySem.W.typeIn K (.ref C) == some (.type "type")) = true then PySem.W.subIn K (.type t) (.ref C) else none) = _
    rw [if_pos o.cl]
    exact sub_base K C b
  | own h => simp
end
section
variable {X : Cx} {CX : CXT} {k : Nat} {C f : Addr} {fd : FuncData} {ps : List Str} {sp : Sp} {E : XK}
/-- a def called by values somewhere below -/
theorem own_call {A : Around} {pins : List (Addr × Obj)} {σ : L2.St} {H : Hp} {s : Shared} {vs : List V} {us : List Value} {Q : VK} (F : FnOk X.prog X.w X.K X.mg X.base CX k f fd ps sp) (sb : Sub X k A) (I : Inv X pins σ H s)
    (hb : Binds X.K fd ps []) (hx : Passes CX X E) (r : Vals vs us) (h : sp vs H Q E) : wpAny (model X.prog X.w) A (call (.ref f) us) (EP X pins σ Q) X.xe s := by
  have e0 : Env0 X.prog X.w X.K X.mg X.base A X.stack s H := by
    have e := I.env0
    exact ⟨by rw [sb.fr]; exact e.frames, e.mod, e.bs, e.bsz, e.funs, e.frf, e.hok, e.bare⟩
  have hl := F.len _ _ _ _ h
  refine wpAny_call (codeAny_mono (F.run A X.stack s H ⟨us, []⟩ us vs Q E sb.room e0 (by
    have := hb s us I.kIn (by simp only [List.append_nil]; rw [← r.length]; exact hl)
    simpa using this) r h) fun r s' hq => ?_)
  cases r with
  | error e => exact hx pins σ H s e s' I hq
  | ok fl =>
    cases fl with
    | ret w => exact I.after hq
    | next => exact False.elim hq
    | brk => exact False.elim hq
    | cont => exact False.elim hq
/-- x == y by x's own == -/
def rOwnEq (K : PySem.W.Frag) (C : Addr) (sp : Sp) (E : XK) (neg : Bool) : R2 := fun x y H Q => ∃ a dx fs t, x = .ref a ∧ H a = some (.ins C dx fs) ∧ TyR K H C y t ∧ sp [x, y] H (fun r H' => ∃ b, r = .bl b ∧ Q (.bl (if neg then !b else b)) H') E
theorem op_ownEq {K : PySem.W.Frag} (hK : X.K = K) (o : OwnC K C) (F : FnOk X.prog X.w X.K X.mg X.base CX k f fd ps sp) (hr : Room (k + 1) X.A) (hs : PySem.W.findIn K (.ref C) "__eq__" = some (some (.ref f))) (hf : PySem.W.isFn K (.ref f) = true) (hb : Binds K fd ps []) (hx : Passes CX X E) :
    OpR X (compareOp .Eq) (rOwnEq K C sp E false) := by
  subst hK
  intro pins s σ H x y u v Q I rx ry h
  obtain ⟨a, dx, fs, t, rfl, ha, ty, h⟩ := h
  cases rx
  obtain ⟨mA, J, _⟩ := ins_get I.hok ha
  obtain ⟨od, J, _⟩ := J.look
  obtain ⟨P, Z, p, _⟩ := kit_of I ry ty.tyx
  obtain ⟨m, hF⟩ := I.fr
  show wpAny (model X.prog X.w) X.A (richCompare .Eq (.ref a) v) (EP X pins σ Q) X.xe s
  refine PySem.W.cmp_K (op := .Eq) (tb := t) hr.units0 hF I.ok.mod.kin J (Z.ty _ _ I.kIn p) ty.first hs hf ?_
  refine wpAny_mono (own_call F ⟨hr.mono (Nat.le_succ k), rfl⟩ I hb hx (.cons (show RelV (V.ref a) (Value.ref a) from rfl) (.cons ry .nil)) h) (fun r s' z => ?_) fun _ _ e => e
  obtain ⟨rv, H', I', rr, b, rfl, q⟩ := z
  cases rr
  exact ⟨.bl b, H', I', rfl, q⟩
theorem op_ownNe {K : PySem.W.Frag} (hK : X.K = K) (o : OwnC K C) (F : FnOk X.prog X.w X.K X.mg X.base CX k f fd ps sp) (hr : Room (k + 1) X.A) (hs : PySem.W.findIn K (.ref C) "__eq__" = some (some (.ref f))) (hf : PySem.W.isFn K (.ref f) = true) (hb : Binds K fd ps []) (hx : Passes CX X E) :
    OpR X (compareOp .NotEq) (rOwnEq K C sp E true) := by
  subst hK
  intro pins s σ H x y u v Q I rx ry h
  obtain ⟨a, dx, fs, t, rfl, ha, ty, h⟩ := h
  cases rx
  obtain ⟨mA, J, _⟩ := ins_get I.hok ha
  obtain ⟨od, J, _⟩ := J.look
  obtain ⟨P, Z, p, _⟩ := kit_of I ry ty.tyx
  show wpAny (model X.prog X.w) X.A (richCompare .NotEq (.ref a) v) (EP X pins σ Q) X.xe s
  refine ne_K (tb := t) (by have := hr.in1.units0; exact this) I.kIn J (Z.ty _ _ I.kIn p) ty.first o.ne o.hm hs hf ?_
  refine wpAny_mono (own_call F (Sub.in1 ⟨hr, rfl⟩) I hb hx (.cons (show RelV (V.ref a) (Value.ref a) from rfl) (.cons ry .nil)) h) (fun r s' z => ?_) fun _ _ e => e
  obtain ⟨rv, H', I', rr, b, rfl, q⟩ := z
  cases rr
  exact ⟨b, rfl, .bl (!b), H', I', rfl, q⟩
/-- str(x), repr(x) by x's own -/
def rOwnTx (C : Addr) (sp : Sp) (E : XK) : List V → Hp → VK → Prop := fun xs H Q => ∃ a dx fs, xs = [.ref a] ∧ H a = some (.ins C dx fs) ∧ sp [.ref a] H (fun r H' => ∃ b, r = .str b ∧ Q (.str b) H') E
theorem call_ownStr {K : PySem.W.Frag} (hK : X.K = K) (F : FnOk X.prog X.w X.K X.mg X.base CX k f fd ps sp) (hr : Room (k + 2) X.A) (hs : PySem.W.findIn K (.ref C) "__str__" = some (some (.ref f))) (hf : PySem.W.isFn K (.ref f) = true) (hb : Binds K fd ps []) (hx : Passes CX X E) :
    CallR X (.type "str") (rOwnTx C sp E) := by
  subst hK
  intro pins s σ H xs us Q I r h
  obtain ⟨a, dx, fs, rfl, ha, h⟩ := h
  obtain rfl := Vals.ref1 r
  obtain ⟨mA, J, _⟩ := ins_get I.hok ha
  obtain ⟨od, J, _⟩ := J.look
  refine PySem.W.kso_call (by have := hr.in1.in1.units0; exact this) I.kIn J hs hf ?_
  refine wpAny_mono (own_call F (Sub.in1 (Sub.in1 ⟨hr, rfl⟩)) I hb hx (.cons (show RelV (V.ref a) (Value.ref a) from rfl) .nil) h) (fun r s' z => ?_) fun _ _ e => e
  obtain ⟨rv, H', I', rr, b, rfl, q⟩ := z
  obtain ⟨t, rfl⟩ := rr
  exact ⟨.str b, H', I', ⟨t, rfl⟩, q⟩
theorem call_ownRepr {K : PySem.W.Frag} (hK : X.K = K) (F : FnOk X.prog X.w X.K X.mg X.base CX k f fd ps sp) (hr : Room (k + 1) X.A) (hs : PySem.W.findIn K (.ref C) "__repr__" = some (some (.ref f))) (hf : PySem.W.isFn K (.ref f) = true) (hb : Binds K fd ps []) (hx : Passes CX X E) :
    CallR X (.builtin "repr") (rOwnTx C sp E) := by
  subst hK
  intro pins s σ H xs us Q I r h
  obtain ⟨a, dx, fs, rfl, ha, h⟩ := h
  obtain rfl := Vals.ref1 r
  obtain ⟨mA, J, _⟩ := ins_get I.hok ha
  obtain ⟨od, J, _⟩ := J.look
  obtain ⟨m, hF⟩ := I.fr
  refine PySem.W.repr_K (by have := hr.in1.units0; exact this) hF I.ok.mod.kin J hs hf ?_
  refine wpAny_mono (own_call F (Sub.in1 ⟨hr, rfl⟩) I hb hx (.cons (show RelV (V.ref a) (Value.ref a) from rfl) .nil) h) (fun r s' z => ?_) fun _ _ e => e
  obtain ⟨rv, H', I', rr, b, rfl, q⟩ := z
  obtain ⟨t, rfl⟩ := rr
  exact ⟨.str b, H', I', ⟨t, rfl⟩, q⟩
open PySem.Builtin in
theorem call_ownBool {K : PySem.W.Frag} (hK : X.K = K) (o : OwnC K C) : CallR X (.type "bool") (fun xs H Q => ∃ a dx fs, xs = [.ref a] ∧ H a = some (.ins C dx fs) ∧ Q (.bl true) H) := by
  subst hK
  intro pins s σ H xs us Q I r h
  obtain ⟨a, dx, fs, rfl, ha, q⟩ := h
  obtain rfl := Vals.ref1 r
  obtain ⟨mA, J, _⟩ := ins_get I.hok ha
  obtain ⟨od, J, _⟩ := J.look
  obtain ⟨m, hF⟩ := I.fr
  have g : Meets (Builtin.«bool.__new__» ⟨[.type "bool", .ref a], []⟩) (fun A R s => (∀ (M : Model) (A : Around) (E : Value → Shared → Prop) (Q : Bool → Shared → Prop) (tk : Nat), Q true { s with toks := tk } → wpAny M A (truthy (.ref a)) Q E { s with toks := tk }) ∧ ∀ tk, R (.ok (.ret (.bool true))) { s with toks := tk }) :=
    Meets.of_wp fun prog w A R s hs => by
      obtain ⟨hl, hs⟩ := hs
      obtain ⟨hp, g, d, tk, os⟩ := s
      have f1 := PySem.F.conv_sub_bool
      repeat (any_goals (first | assumption | (with_reducible refine hl _ _ _ _ _ ?_) | wp_step))
      all_goals first | exact ⟨_, rfl, hs _⟩ | exact hs _ | skip
  refine call_bool_1 g ⟨fun M A E Q tk hq => ?_, fun tk => ⟨rfl, .bl true, H, I.tok tk, rfl, q⟩⟩
  have J2 := J
  exact PySem.W.truthy_K0 (s := { s with toks := tk }) hF I.ok.mod.kin J2 o.bo o.le hq
end
end Dn
set_option Elab.async false
set_option linter.all false
set_option maxRecDepth 100000
set_option maxHeartbeats 2000000
namespace Dn
open PySem PySem.Spec PyProof.Rows L2
/-! ### o.m(k = v) -/
def tMethN (C : Addr) (m : Str) (n : Nat) (sp : Sp) (gV : List V → List V → List V) (E : XK) (ta : TE) (tk : TA) : TE := fun σ H Q => ta σ H fun x H1 => ∃ a dx fs, x = .ref a ∧ H1 a = some (.ins C dx fs) ∧ fs.lookup m = none ∧
  tk σ H1 fun zs H2 => zs.length = n ∧ sp (gV [x] zs) H2 Q E
section
variable {X : Cx} {CX : CXT} {k : Nat} {f C : Addr} {fd : FuncData} {ps ks : List Str} {sp : Sp} {E : XK} {m : Str} {apos pos : Pos} {o : Expr} {kws : List Keyword} {ta : TE} {tk : TA} {g : List Value → List Value → List Value} {gV : List V → List V → List V}
theorem pe_methN0 {K : PySem.W.Frag} {pl : Sem Bool} (hK : X.K = K) (he : PE X o ta) (c : Cls K C) (hm : Meth K C m f) (F : FnOk X.prog X.w X.K X.mg X.base CX k f fd ps sp) (hr : Room k X.A) (hb : KBn K fd ps 1 ks g gV) (hx : Passes CX X E)
    (hkw : PK X kws tk) (hall : (backToKw pos (keywordEach kws X.env)).all (·.1.isSome) = true := by rfl) (hks : (backToKw pos (keywordEach kws X.env)).filterMap (·.1) = ks := by rfl)
    (hpl : ((backTo pos (starEach [] X.env)).any (·.1) || (backToKw pos (keywordEach kws X.env)).any (·.1.isNone)) = false := by rfl)
    (ht : eval (.Call (.Attribute o m apos) [] kws pos) X.env = (do
      let ov ← eval o X.env
      standAt apos.atName
      let (f, first) ← holding [ov] (getMethod ov m pl)
      callWith pos f first (backTo pos (starEach [] X.env)) (backToKw pos (keywordEach kws X.env))) := by rfl) :
    PE X (.Call (.Attribute o m apos) [] kws pos) (tMethN C m ks.length sp gV E ta tk) := by
  subst hK
  refine ⟨fun pins s σ H Q I h => ?_⟩
  refine PySem.W.methodCall_KW (pl := pl) (thn (he.run pins s σ H _ I h) fun u s1 ⟨x, H1, I1, rx, a, dx, fs, ex, ea, l, q⟩ => ?_) ht
  subst ex
  obtain rfl : u = Value.ref a := rx
  refine getmeth_ok I1 ea c hm l ?_
  refine PySem.W.callWith_KW0 (first := [.ref a]) (h₀ := X.base) I.ok.mod.kin hm.kp hall (thn (hkw.run pos pins s1 σ H1 _ I1 q) fun ws s2 ⟨zs, H2, I2, rz, l2, q2⟩ => ⟨I2.kIn, ?_⟩) hpl
  rw [hks]
  exact run_fnN (us := [.ref a]) (vs := [.ref a]) F hr hb hx I2 (.cons rfl .nil) rz rfl l2 q2
end
theorem kb1 {K : PySem.W.Frag} {x qual : Str} {st : Stmt} {f : Addr} {fd : FuncData} {p0 p1 : Str} (F : Fun K x qual st f fd)
    (h : ∀ (kV doc pm : Value) (an : Option Addr) (cdv ct u v : Value), bindArgs (PySem.W.fnOf x qual (defArgs st) (defBody st) (defScope st) .none kV doc pm an cdv ct) ⟨[u], [(p1, v)]⟩ = pure [(p0, u), (p1, v)]) :
    KBn K fd [p0, p1] 1 [p1] (fun us ws => us ++ ws) (fun vs zs => vs ++ zs) := by
  obtain ⟨oc, od, kV, doc, pm, an, cdv, ct, osl, rfl, lk, hcd⟩ := F.ex
  refine ⟨fun s us ws X l1 l2 => ?_, fun r1 r2 => r1.append r2⟩
  match us, ws, l1, l2 with
  | [u], [v], _, _ => exact BindsTo.of_eq (h kV doc pm an cdv ct u v)
variable [CTab]
/-! ### readings -/
section
variable {σ : L2.St} {B H : Hp} {K : PySem.W.Frag} {ta te : TE} {tk : TA} {oa : Option U} {E : XK} {c : Nat} {m : List U → Option U}
theorem eo_methN {nm : Str} {n : Nat} {ol : Option (List U)} (h : EvO ta σ B H oa) (hl : EvA tk σ B H ol) :
    EvO (tMethN (CTab.ct c) nm n (spU m) (fun vs zs => vs ++ zs) E ta tk) σ B H (methO c nm (fun xs => if xs.length = n + 1 then m xs else none) oa ol) := fun z e B1 H1 g Q q => by
  obtain ⟨x, ex, e⟩ := bind_some e
  refine h x ex B1 H1 g _ fun v B2 H2 g2 r => ?_
  cases r with
  | @obj a dx D fs es h1 h2 r =>
    have e2 : (if D = c ∧ noneQ (fs.lookup nm) = true then ol.bind fun xs => (if (U.obj D fs :: xs).length = n + 1 then m (.obj D fs :: xs) else none) else none) = some z := e
    clear e
    split at e2
    · rename_i hD
      obtain ⟨hD, hm⟩ := hD
      subst hD
      obtain ⟨xs, exs, e⟩ := bind_some e2
      have hm' : fs.lookup nm = none := by
        cases q : fs.lookup nm with
        | none => rfl
        | some u => rw [q] at hm; cases hm
      split at e
      · rename_i hn
        refine ⟨a, dx, es, rfl, g2.bh _ _ h1, (r.look nm).2 hm', hl xs exs B2 H2 (g.trans g2) _ fun vs B3 H3 g3 r3 => ⟨by rw [r3.length]; simpa using hn, ?_⟩⟩
        exact ⟨B3, _, z, g3.bh, .cons ((Rp.obj h1 h2 r).up g3) r3, e, fun v B4 H4 g4 r4 => q v B4 H4 ((g2.trans g3).trans g4) r4⟩
      · cases e
    · cases e2
  | _ => cases e
/-- a property -/
def propV (c : Nat) (m : List U → Option U) : U → Option U
  | .obj d fs => if d = c then m [.obj d fs] else none
  | _ => none
theorem eo_prop (h : EvO ta σ B H oa) : EvO (tProp (CTab.ct c) (spU m) [] E ta) σ B H (op1 (propV c m) oa) := fun z e B1 H1 g Q q => by
  obtain ⟨x, ex, e⟩ := bind_some e
  refine h x ex B1 H1 g _ fun v B2 H2 g2 r => ?_
  cases r with
  | @obj a dx D fs es h1 h2 r =>
    have e2 : (if D = c then m [.obj D fs] else none) = some z := e
    clear e
    split at e2
    · rename_i hD
      subst hD
      exact ⟨a, dx, es, rfl, g2.bh _ _ h1, B2, _, z, g2.bh, .cons (Rp.obj h1 h2 r) .nil, e2, fun v B3 H3 g3 r3 => q v B3 H3 (g2.trans g3) r3⟩
    · cases e2
  | _ => cases e
/-! ### whether a value is of the class c -/
def U.tyk (c : Nat) : U → Option Bool
  | .obj d _ => if d = c then some true else none
  | .dit _ => none
  | _ => some false
theorem tyR_of (o : OwnC K (CTab.ct c)) {u : U} {v : V} {b : Bool} (s : Same B H) (r : Rp B u v) (h : u.tyk c = some b) : ∃ t, TyR K H (CTab.ct c) v t ∧ (t == .ref (CTab.ct c)) = b := by
  have base : ∀ (T : String), (Value.type T == Value.ref (CTab.ct c)) = false := fun T => Bool.eq_false_iff.mpr fun q => by cases beq_iff_eq.mp q
  cases r with
  | non => cases h; exact ⟨_, .base (.base .non) (by simp [baseTy]), base _⟩
  | bl b => cases h; exact ⟨_, .base (.base (.bl b)) (by simp [baseTy]), base _⟩
  | int b => cases h; exact ⟨_, .base (.base (.int b)) (by simp [baseTy]), base _⟩
  | str b => cases h; exact ⟨_, .base (.base (.str b)) (by simp [baseTy]), base _⟩
  | tup e r => cases h; exact ⟨_, .base (.base (.tup (s _ _ e))) (by simp [baseTy]), base _⟩
  | tpd e _ r => cases h; exact ⟨_, .base (.fTuple (s _ _ e)) (by simp [baseTy]), base _⟩
  | lst e r => cases h; exact ⟨_, .base (.base (.lst (s _ _ e))) (by simp [baseTy]), base _⟩
  | frl e r => cases h; exact ⟨_, .base (.base (.frz (s _ _ e))) (by simp [baseTy]), base _⟩
  | dic e r => cases h; exact ⟨_, .base (.fDict (s _ _ e)) (by simp [baseTy]), base _⟩
  | dit e r => cases h
  | @obj a dx D fs es h1 h2 r =>
    have h5 : (if D = c then some true else none) = some b := h
    clear h
    split at h5
    · rename_i hD
      subst hD
      cases h5
      exact ⟨_, .own (.base (.ins (s _ _ h1) o.cls o.ha o.hn o.htk o.hm)), by simp⟩
    · cases h5
theorem call_isiO {X : Cx} (hK : X.K = K) : CallR X (.builtin "isinstance") (rIsi K) := hK ▸ call_isi
theorem eo_isOwn (o : OwnC K (CTab.ct c)) (ha : EvO ta σ B H oa) : EvO (tCB (rIsi K) (tCons ta (tCons (tC (.ref (CTab.ct c))) tNil))) σ B H (op1 (fun x => (x.tyk c).map U.bl) oa) := fun z e B1 H1 g Q q => by
  obtain ⟨x, ex, e⟩ := bind_some e
  obtain ⟨b, eb, e⟩ := map_some e
  subst e
  refine ha x ex B1 H1 g _ fun v B2 H2 g2 r => ?_
  obtain ⟨t, ty, et⟩ := tyR_of o g2.bh r eb
  exact ⟨v, _, t, .ref (CTab.ct c), b, rfl, .own _, ty.tyx, by rw [← et]; exact ty.kit o, q _ B2 H2 g2 (.bl b)⟩
/-! ### ==, !=, str, repr, bool -/
def ownEqV (c : Nat) (m : List U → Option U) (neg : Bool) (x y : U) : Option U := match x with
  | .obj d fs => if d = c then (y.tyk c).bind fun _ => (m [.obj d fs, y]).bind fun r => r.asB.map fun b => .bl (if neg then !b else b) else none
  | _ => none
theorem rv_ownEq {neg : Bool} (o : OwnC K (CTab.ct c)) : RV (rOwnEq K (CTab.ct c) (spU m) E neg) (ownEqV c m neg) := fun x y z e v w B H s rx ry Q q => by
  cases rx with
  | @obj a dx D fs es h1 h2 r =>
    have e5 : (if D = c then (y.tyk c).bind fun _ => (m [.obj D fs, y]).bind fun r => r.asB.map fun b => U.bl (if neg then !b else b) else none) = some z := e
    clear e
    split at e5
    · rename_i hD
      subst hD
      obtain ⟨k, ek, e⟩ := bind_some e5
      obtain ⟨rr, er, e⟩ := bind_some e
      obtain ⟨b, eb, e⟩ := map_some e
      subst e
      obtain ⟨t, ty, _⟩ := tyR_of o s ry ek
      refine ⟨a, dx, es, t, rfl, s _ _ h1, ty, B, [.obj D fs, y], rr, s, .cons (.obj h1 h2 r) (.cons ry .nil), er, fun v2 B2 H2 g2 r2 => ?_⟩
      cases rr <;> cases eb
      cases r2
      exact ⟨_, rfl, q _ B2 H2 g2 (.bl _)⟩
    · cases e5
  | _ => cases e
def U.asS : U → Option Str
  | .str s => some s
  | _ => none
def ownTxV (c : Nat) (m : List U → Option U) : U → Option U
  | .obj d fs => if d = c then (m [.obj d fs]).bind fun r => r.asS.map U.str else none
  | _ => none
theorem rc_ownTx : RC (rOwnTx (CTab.ct c) (spU m) E) (c1 (ownTxV c m)) := rc_one c1_one fun x z e v B H s rx Q q => by
  cases rx with
  | @obj a dx D fs es h1 h2 r =>
    have e5 : (if D = c then (m [.obj D fs]).bind fun r => r.asS.map U.str else none) = some z := e
    clear e
    split at e5
    · rename_i hD
      subst hD
      obtain ⟨rr, er, e⟩ := bind_some e5
      obtain ⟨b, eb, e⟩ := map_some e
      subst e
      refine ⟨a, dx, es, rfl, s _ _ h1, B, [.obj D fs], rr, s, .cons (.obj h1 h2 r) .nil, er, fun v2 B2 H2 g2 r2 => ?_⟩
      cases rr <;> cases eb
      cases r2
      exact ⟨_, rfl, q _ B2 H2 g2 (.str _)⟩
    · cases e5
  | _ => cases e
def ownBoolV (c : Nat) : U → Option U
  | .obj d _ => if d = c then some (.bl true) else none
  | _ => none
theorem rc_ownBool : RC (fun xs H Q => ∃ a dx fs, xs = [V.ref a] ∧ H a = some (.ins (CTab.ct c) dx fs) ∧ Q (.bl true) H) (c1 (ownBoolV c)) := rc_one c1_one fun x z e v B H s rx Q q => by
  cases rx with
  | @obj a dx D fs es h1 h2 r =>
    have e5 : (if D = c then some (U.bl true) else none) = some z := e
    clear e
    split at e5
    · rename_i hD
      subst hD
      cases e5
      exact ⟨a, dx, es, rfl, s _ _ h1, q _ B H (Go.refl s) (.bl true)⟩
    · cases e5
  | _ => cases e
end
/-! ### two clauses, the first one over pairs -/
section
variable {σ : L2.St} {B H : Hp} {K : PySem.W.Frag}
theorem eo_lc2t {wi wi1 : TI} {tt tt1 : TT} {te : TE} {vs vs1 : List Nat} {j j' j1 : Nat} {oxs : Option (List U)} {p : U → U → Option Bool} {ys : U → U → Option (List U)} {p1 f : U → U → U → Option _} (hi : EvI wi σ B H oxs)
    (hw : ∀ x y, wipe (((wipe σ vs).set j (some x)).set j' (some y)) vs = wipe σ vs) (hw1 : ∀ x y z, wipe ((wipe (((wipe σ vs).set j (some x)).set j' (some y)) vs1).set j1 (some z)) vs1 = wipe (((wipe σ vs).set j (some x)).set j' (some y)) vs1)
    (hp : ∀ a b v w B1 H1, At B B1 H1 → Rp B1 a v → Rp B1 b w → EvT tt (((wipe σ vs).set j (some v)).set j' (some w)) B1 H1 (p a b)) (hy : ∀ a b v w B1 H1, At B B1 H1 → Rp B1 a v → Rp B1 b w → EvI wi1 (((wipe σ vs).set j (some v)).set j' (some w)) B1 H1 (ys a b))
    (hp1 : ∀ a b v w u' v' B1 H1, At B B1 H1 → Rp B1 a v → Rp B1 b w → Rp B1 u' v' → EvT tt1 ((wipe (((wipe σ vs).set j (some v)).set j' (some w)) vs1).set j1 (some v')) B1 H1 (p1 a b u'))
    (hf : ∀ a b v w u' v' B1 H1, At B B1 H1 → Rp B1 a v → Rp B1 b w → Rp B1 u' v' → EvO te ((wipe (((wipe σ vs).set j (some v)).set j' (some w)) vs1).set j1 (some v')) B1 H1 (f a b u')) :
    EvO (tLc2 wi (gTup K 2 (gCons (gName j) (gCons (gName j') gNil))) tt wi1 (gName j1) tt1 te vs vs1) σ B H
      (compOO (fun u => (unp2 u).bind fun ab => p ab.1 ab.2) (fun u => (unp2 u).bind fun ab => ys ab.1 ab.2) (fun u u' => (unp2 u).bind fun ab => p1 ab.1 ab.2 u') (fun u u' => (unp2 u).bind fun ab => f ab.1 ab.2 u') oxs) :=
  eo_lc2G hi fun u v B1 H1 Q b g r eb k => by
    obtain ⟨⟨x, y⟩, eu, eb⟩ := bind_some eb
    refine g_two g.bh r eu fun a' b' ra rb => k _ (hw a' b') (by rw [← eb]; exact hp x y a' b' B1 H1 g ra rb) fun _ => ⟨by rw [eu]; exact hy x y a' b' B1 H1 g ra rb, fun u' v' B2 H2 Q' bb g' r' eb' k' => ?_⟩
    have gg : At B B2 H2 := g.tr g'
    rw [eu] at eb'
    refine k' _ (hw1 a' b' v') (by rw [← eb']; exact hp1 x y a' b' u' v' B2 H2 gg (ra.upA g') (rb.upA g') r') fun _ => ?_
    rw [eu]
    exact hf x y a' b' u' v' B2 H2 gg (ra.upA g') (rb.upA g') r'
end
/-! ### the values of a dict -/
def U.vals : U → Option (List U)
  | .dic kvs => some (kvs.map fun kv => kv.2)
  | _ => none
theorem Rpk.valsU {B : Hp} : ∀ {xs : List (Key × U)} {vs : List (Key × V)}, Rpk B xs vs → Rps B (xs.map fun kv => kv.2) (vs.map fun kv => kv.2)
  | _, _, .nil => .nil
  | _, _, .cons h t => .cons h (Rpk.valsU t)
theorem ei_vals {σ : L2.St} {B H : Hp} {tl : TE} {oa : Option U} (h : EvO tl σ B H oa) : EvI (iVals tl) σ B H (oa.bind U.vals) := fun xs e B1 H1 g R q => by
  obtain ⟨x, ex, e⟩ := bind_some e
  refine h x ex B1 H1 g _ fun v B2 H2 g2 r => ?_
  cases r with
  | @dic a kvs es o h r =>
    cases e
    refine ⟨a, o, es, rfl, g2.bh _ _ h, q _ B2 H2 g2 ⟨fun i H' hi s => ?_, fun H' s => ?_, fun i H' x H'' B' hi s1 s2 y => ?_⟩⟩
    · rw [List.length_map, ← r.length] at hi
      exact ⟨s _ _ h, hi⟩
    · rw [List.length_map, ← r.length]
      exact ⟨s _ _ h, Nat.le_refl _⟩
    · obtain ⟨e1, k, e2⟩ := y
      subst e1
      obtain ⟨x, ex, rx⟩ := r.at e2
      exact ⟨B', x, Go.refl s2, by simp [ex], rx.kp (Kp.of s1)⟩
  | _ => cases e
/-! ### d == {}, d != {} -/
def rEmp (neg : Bool) : R2 := fun x y H Q => ∃ (d p : Addr) (o : Obj) (kvs : List (Key × V)), x = .ref d ∧ y = .ref p ∧ H d = some (.frz o (.dK kvs)) ∧ H p = some (.dK []) ∧ Q (.bl (if neg then !kvs.isEmpty else kvs.isEmpty)) H
section
variable {X : Cx}
theorem op_emp (hu : X.A.units + 64 < cLine) : OpR X (compareOp .Eq) (rEmp false) := by
  intro pins s σ H x y v u Q I rx ry h
  obtain ⟨d, p, o, kvs, rfl, rfl, hd, hp, q⟩ := h
  cases rx; cases ry
  obtain ⟨hs, hgd, hx, es, ep, vs, hdt, hsz, kv, hm⟩ := I.frzK hd
  obtain ⟨_, hs2, vs2, kv2, dd2⟩ := I.hok p _ hp
  cases kv2
  have hl : kvs.length = vs.length := Paired.length kv
  refine PySem.W.keq_eq (knd := mixKind X.prog X.w) (r := true) hs hs2 hm.dictOf dd2 (by omega) (fun e => ?_) ⟨.bl kvs.isEmpty, H, I, ?_, q⟩
  · cases vs with
    | nil => exact .nil
    | cons a b => cases e
  · show Value.bool _ = Value.bool _
    cases kvs <;> cases vs <;> first | rfl | cases hl
theorem op_nemp (hu : X.A.units + 64 < cLine) : OpR X (compareOp .NotEq) (rEmp true) := by
  intro pins s σ H x y v u Q I rx ry h
  obtain ⟨d, p, o, kvs, rfl, rfl, hd, hp, q⟩ := h
  cases rx; cases ry
  obtain ⟨hs, hgd, hx, es, ep, vs, hdt, hsz, kv, hm⟩ := I.frzK hd
  obtain ⟨_, hs2, vs2, kv2, dd2⟩ := I.hok p _ hp
  cases kv2
  have hl : kvs.length = vs.length := Paired.length kv
  refine PySem.W.keq_ne (knd := mixKind X.prog X.w) (r := true) hs hs2 hm.dictOf dd2 (by omega) (fun e => ?_) ⟨.bl (!kvs.isEmpty), H, I, ?_, q⟩
  · cases vs with
    | nil => exact .nil
    | cons a b => cases e
  · show Value.bool _ = Value.bool _
    cases kvs <;> cases vs <;> first | rfl | cases hl
end
def empV (neg : Bool) : U → Option U
  | .dic kvs => some (.bl (if neg then !kvs.isEmpty else kvs.isEmpty))
  | _ => none
theorem eo_emp {σ : L2.St} {B H : Hp} {ta : TE} {oa : Option U} {neg : Bool} (h : EvO ta σ B H oa) : EvO (tOp (rEmp neg) ta tDNewK) σ B H (op1 (empV neg) oa) := fun z e B1 H1 g Q q => by
  obtain ⟨x, ex, e⟩ := bind_some e
  refine h x ex B1 H1 g _ fun v B2 H2 g2 r => fun p hp => ?_
  cases r with
  | @dic a kvs es o h r =>
    cases e
    have g3 : Go B2 H2 B2 (upd H2 p (.dK [])) := Go.own g2.bh hp
    refine ⟨a, p, o, es, rfl, rfl, g3.bh _ _ h, upd_same, ?_⟩
    have e : es.isEmpty = kvs.isEmpty := by cases r <;> rfl
    rw [e]
    exact q _ B2 _ (g2.trans g3) (.bl _)
  | _ => cases e
end Dn
set_option Elab.async false
set_option linter.all false
set_option maxRecDepth 100000
set_option maxHeartbeats 2000000
namespace Dn
open PySem PySem.Spec PyProof.Rows L2
variable [CTab]
/-! ### an instance being made by its own __init__ -/
structure MkO (c : Nat) (B H : Hp) (x dx : Addr) (fs : List (Str × U)) (es : List (Str × V)) : Prop where
  hx : H x = some (.ins (CTab.ct c) dx es)
  rf : Rpf B fs es
  hd : H dx = some (.own x)
  ne : x ≠ dx
  bx : B x = none
  bd : B dx = none
def putUF (f : Str) (u : U) : List (Str × U) → List (Str × U)
  | [] => [(f, u)]
  | (g, x) :: r => if g = f then (g, u) :: r else (g, x) :: putUF f u r
theorem Rpf.put {B : Hp} {f : Str} {u : U} {v : V} (r : Rp B u v) : ∀ {fs : List (Str × U)} {es : List (Str × V)}, Rpf B fs es → Rpf B (putUF f u fs) (putF f v es)
  | _, _, .nil => .cons r .nil
  | _, _, .cons (k := k) h t => by
    unfold putUF putF
    by_cases e : k = f
    · rw [if_pos e, if_pos e]; exact .cons r t
    · rw [if_neg e, if_neg e]; exact .cons h (Rpf.put r t)
theorem Rpf.length {B : Hp} : ∀ {fs : List (Str × U)} {es : List (Str × V)}, Rpf B fs es → es.length = fs.length
  | _, _, .nil => rfl
  | _, _, .cons _ t => by rw [List.length_cons, List.length_cons, Rpf.length t]
section
variable {c : Nat} {B H B2 H2 : Hp} {x dx : Addr} {fs : List (Str × U)} {es : List (Str × V)} {K : PySem.W.Frag} {σ : L2.St}
theorem MkO.go (M : MkO c B H x dx fs es) (g : Go B H B2 H2) : MkO c B2 H2 x dx fs es :=
  ⟨g.h _ _ M.hx, M.rf.kp (Kp.of g.b), g.h _ _ M.hd, M.ne, g.noB M.bx M.hx, g.noB M.bd M.hd⟩
theorem MkO.set {f : Str} {u : U} {v : V} (M : MkO c B H x dx fs es) (r : Rp B u v) : MkO c B (upd H x (.ins (CTab.ct c) dx (putF f v es))) x dx (putUF f u fs) (putF f v es) :=
  ⟨upd_same, M.rf.put r, by rw [upd_ne M.ne.symm]; exact M.hd, M.ne, M.bx, M.bd⟩
theorem q_fld {f : Str} {u : U} {tv : TE} {tz : TS} {D : Ends} (M : MkO c B H x dx fs es) (s : Same B H) (cl : Cls K (CTab.ct c)) (na : NoAttr K (CTab.ct c) f) (hv : σ[0]? = some (some (.ref x))) (h : EvO tv σ B H (some u)) (hl : fs.length < 1000)
    (k : ∀ B2 H2 es2, Gs (fun a => a = x) B H B2 H2 → MkO c B2 H2 x dx (putUF f u fs) es2 → tz D σ H2) : tSeq (sFld K (tVar 0) tv f) tz D σ H := by
  refine h u rfl B H (At.refl s) _ fun v B2 H2 g2 r2 => ?_
  have M2 := M.go g2
  refine ⟨_, hv, x, _, dx, es, rfl, M2.hx, cl, na, by rw [M.rf.length]; exact hl, ?_⟩
  exact k B2 _ _ ((Gs.of g2).trans (gs_one g2.bh M2.bx rfl)) (M2.set r2)
/-- self.f = g(self.e) -/
theorem q_fldC {f e : Str} {u z : U} {m : List U → Option U} {E : XK} {tz : TS} {D : Ends} (M : MkO c B H x dx fs es) (s : Same B H) (cl : Cls K (CTab.ct c)) (na : NoAttr K (CTab.ct c) f) (ne : NoAttr K (CTab.ct c) e) (hv : σ[0]? = some (some (.ref x)))
    (he : fs.lookup e = some u) (hm : m [u] = some z) (hl : fs.length < 1000)
    (k : ∀ B2 H2 es2, Gs (fun a => a = x) B H B2 H2 → MkO c B2 H2 x dx (putUF f z fs) es2 → tz D σ H2) : tSeq (sFld K (tVar 0) (tCall (spU m) [] E (tCons (tFld K (tVar 0) e) tNil)) f) tz D σ H := by
  obtain ⟨v, ev, rv⟩ := (M.rf.look e).1 u he
  refine ⟨_, hv, x, _, dx, es, v, rfl, M.hx, cl, ne, ev, ?_⟩
  refine ⟨B, [u], z, s, .cons rv .nil, hm, fun w B2 H2 g2 r2 => ?_⟩
  have M2 := M.go g2
  refine ⟨_, hv, x, _, dx, es, rfl, M2.hx, cl, na, by rw [M.rf.length]; exact hl, ?_⟩
  exact k B2 _ _ ((Gs.of g2).trans (gs_one g2.bh M2.bx rfl)) (M2.set r2)
end
/-- the promise of an own __init__ with one argument -/
def spMk (c : Nat) (m : U → Option (List (Str × U))) : Sp := fun vs H Q _ => ∃ B x dx w u fs, Same B H ∧ vs = [.ref x, w] ∧ MkO c B H x dx [] [] ∧ Rp B u w ∧ m u = some fs ∧
  ∀ B2 H2 es, Gs (fun a => a = x) B H B2 H2 → MkO c B2 H2 x dx fs es → Q .non H2
def mkF (c : Nat) (m : U → Option (List (Str × U))) : List U → Option U
  | [u] => (m u).map (U.obj c)
  | _ => none
section
variable {σ : L2.St} {B H : Hp} {tl : TA} {ol : Option (List U)} {c : Nat} {m : U → Option (List (Str × U))} {E : XK}
theorem make_go {B2 H2 : Hp} {u z : U} {w : V} {Q : VK} (s2 : Same B2 H2) (r : Rp B2 u w) (e : mkF c m [u] = some z) (q : ∀ v B3 H3, Go B2 H2 B3 H3 → Rp B3 z v → Q v H3) (x dx : Addr) (hx : H2 x = none) (hd : H2 dx = none) (hne : dx ≠ x) :
    spMk c m [.ref x, w] (upd (upd H2 dx (.own x)) x (.ins (CTab.ct c) dx [])) (fun v H3 => v = .non ∧ Q (.ref x) H3) E := by
  obtain ⟨fs, ef, e⟩ := map_some (show (m u).map (U.obj c) = some z from e)
  subst e
  have bx : B2 x = none := s2.free hx
  have bd : B2 dx = none := s2.free hd
  refine ⟨B2, x, dx, w, u, fs, fun a o e => ?_, rfl, ⟨upd_same, .nil, by rw [upd_ne hne, upd_same], hne.symm, bx, bd⟩, r, ef, fun B3 H3 es g3 M => ⟨rfl, ?_⟩⟩
  · rw [upd_ne (ne_of_none e bx), upd_ne (ne_of_none e bd)]; exact s2 a o e
  · have g4 : Go B2 H2 (upd (upd B3 dx (.own x)) x (.ins (CTab.ct c) dx es)) H3 := by
      refine ⟨fun a o e => ?_, fun a o e => ?_, fun a o e => ?_, fun a o e => ?_⟩
      · exact g3.h a o (by rw [upd_ne (ne_of_none e hx), upd_ne (ne_of_none e hd)]; exact e) (ne_of_none e hx)
      · rw [upd_ne (ne_of_none e bx), upd_ne (ne_of_none e bd)]; exact g3.b a o e
      · by_cases h1 : a = x
        · subst h1; rw [upd_same] at e; rw [← e]; exact M.hx
        · rw [upd_ne h1] at e
          by_cases h2 : a = dx
          · subst h2; rw [upd_same] at e; rw [← e]; exact M.hd
          · rw [upd_ne h2] at e; exact g3.bh a o e
      · by_cases h1 : a = x
        · subst h1; exact .inr hx
        · rw [upd_ne h1] at e
          by_cases h2 : a = dx
          · subst h2; exact .inr hd
          · rw [upd_ne h2] at e
            rcases g3.fr a o e with z | z | z
            · exact .inl z
            · rw [upd_ne h1, upd_ne h2] at z; exact .inr z
            · exact absurd z h1
    refine q _ _ _ g4 (.obj upd_same (by rw [upd_ne hne, upd_same]) (M.rf.kp (Kp.of fun a o e => ?_)))
    rw [upd_ne (ne_of_none e M.bx), upd_ne (ne_of_none e M.bd)]; exact e
theorem mkF_one : ∀ xs z, mkF c m xs = some z → ∃ x, xs = [x]
  | [x], _, _ => ⟨x, rfl⟩
  | [], _, e => by cases e
  | _ :: _ :: _, _, e => by cases e
theorem eo_make (h : EvA tl σ B H ol) : EvO (tMake (CTab.ct c) (spMk c m) [] E tl) σ B H (callO (mkF c m) ol) := fun z e B1 H1 g Q q => by
  obtain ⟨xs, ex, e⟩ := bind_some e
  obtain ⟨u, rfl⟩ := mkF_one _ _ e
  refine h _ ex B1 H1 g _ fun vs B2 H2 g2 r => ?_
  cases r with
  | cons r t =>
    cases t
    intro x dx hx hd hne
    exact make_go g2.bh r e (fun v B3 H3 g3 r3 => q v B3 H3 (g2.trans g3) r3) x dx hx hd hne
theorem eo_makeK (h : EvA tl σ B H ol) : EvO (tMakeK (CTab.ct c) 0 1 (spMk c m) (fun vs zs => vs ++ zs) E tNil tl) σ B H (callO (mkF c m) ol) := fun z e B1 H1 g Q q => by
  obtain ⟨xs, ex, e⟩ := bind_some e
  obtain ⟨u, rfl⟩ := mkF_one _ _ e
  refine h _ ex B1 H1 g _ fun vs B2 H2 g2 r => ?_
  cases r with
  | cons r t =>
    cases t
    refine ⟨rfl, rfl, fun x dx hx hd hne => ?_⟩
    exact make_go g2.bh r e (fun v B3 H3 g3 r3 => q v B3 H3 (g2.trans g3) r3) x dx hx hd hne
end
/-! ### tuple(list) whose object is known -/
def tpdV : U → Option U
  | .lst xs => some (.tpd xs)
  | .frl xs => some (.tpd xs)
  | _ => none
theorem rc_tpd {K : PySem.W.Frag} : RC (rTupF K) (c1 tpdV) := rc_one c1_one fun x z e v B H s rx Q q => by
  cases rx with
  | @lst a xs vs h r =>
    cases e
    exact ⟨a, vs, rfl, SqL.of (s _ _ h), fun l od hl hd => q _ _ _ (Go.new s hl) (.tpd upd_same hd (r.new s hl))⟩
  | @frl a xs vs o h r =>
    cases e
    exact ⟨a, vs, rfl, .inl (.inr ⟨o, s _ _ h⟩), fun l od hl hd => q _ _ _ (Go.new s hl) (.tpd upd_same hd (r.new s hl))⟩
  | _ => cases e
/-! ### Web.__init__ -/
section
variable {B H : Hp} {x dx : Addr} {K : PySem.W.Frag} {c : Nat} {t1 t4 t5 : TE} {t2 : TT} {tr : TS} {E : XK} {m : List U → Option U} {text found heads : U} {prs : List U} {rows : U} {v : V} {Q : VK}
def webF (text found heads pairs rows : U) : List (Str × U) := [("written", text), ("rows", found), ("heads", heads), ("pairs", pairs), ("zigzag_rows", rows)]
theorem putW (text found heads pairs rows : U) : putUF "zigzag_rows" rows (putUF "pairs" pairs (putUF "heads" heads (putUF "rows" found (putUF "written" text [])))) = webF text found heads pairs rows := by
  have h1 : ¬ (("written" : Str) = "rows") := by decide +kernel
  have h2 : ¬ (("written" : Str) = "heads") := by decide +kernel
  have h3 : ¬ (("rows" : Str) = "heads") := by decide +kernel
  have h4 : ¬ (("written" : Str) = "pairs") := by decide +kernel
  have h5 : ¬ (("rows" : Str) = "pairs") := by decide +kernel
  have h6 : ¬ (("heads" : Str) = "pairs") := by decide +kernel
  have h7 : ¬ (("written" : Str) = "zigzag_rows") := by decide +kernel
  have h8 : ¬ (("rows" : Str) = "zigzag_rows") := by decide +kernel
  have h9 : ¬ (("heads" : Str) = "zigzag_rows") := by decide +kernel
  have h10 : ¬ (("pairs" : Str) = "zigzag_rows") := by decide +kernel
  simp only [putUF, h1, h2, h3, h4, h5, h6, h7, h8, h9, h10, if_false, webF]
theorem lookP (text found heads pairs : U) : (putUF "pairs" pairs (putUF "heads" heads (putUF "rows" found (putUF "written" text [])))).lookup ("pairs" : Str) = some pairs := by
  have h1 : ¬ (("written" : Str) = "rows") := by decide +kernel
  have h2 : ¬ (("written" : Str) = "heads") := by decide +kernel
  have h3 : ¬ (("rows" : Str) = "heads") := by decide +kernel
  have h4 : ¬ (("written" : Str) = "pairs") := by decide +kernel
  have h5 : ¬ (("rows" : Str) = "pairs") := by decide +kernel
  have h6 : ¬ (("heads" : Str) = "pairs") := by decide +kernel
  have e1 : (("pairs" : Str) == "written") = false := by decide +kernel
  have e2 : (("pairs" : Str) == "rows") = false := by decide +kernel
  have e3 : (("pairs" : Str) == "heads") = false := by decide +kernel
  have e4 : (("pairs" : Str) == "pairs") = true := by decide +kernel
  simp only [putUF, h1, h2, h3, h4, h5, h6, if_false, List.lookup_cons, e1, e2, e3, e4]
theorem lenW (text found heads pairs : U) : (putUF "written" text []).length = 1 ∧ (putUF "rows" found (putUF "written" text [])).length < 1000 ∧ (putUF "heads" heads (putUF "rows" found (putUF "written" text []))).length < 1000 ∧ (putUF "pairs" pairs (putUF "heads" heads (putUF "rows" found (putUF "written" text [])))).length < 1000 := by
  have len : ∀ (f : Str) (u : U) (fs : List (Str × U)), (putUF f u fs).length ≤ fs.length + 1 := fun f u fs => by
    induction fs with
    | nil => simp [putUF]
    | cons a r ih =>
      obtain ⟨g, w⟩ := a
      unfold putUF
      split
      · simp
      · simp; omega
  have a1 : (putUF "written" text []).length = 1 := rfl
  have a2 := len "rows" found (putUF "written" text [])
  have a3 := len "heads" heads (putUF "rows" found (putUF "written" text []))
  have a4 := len "pairs" pairs (putUF "heads" heads (putUF "rows" found (putUF "written" text [])))
  refine ⟨a1, ?_, ?_, ?_⟩ <;> omega
theorem webInit_reads {n0 : List (Option V)} (cl : Cls K (CTab.ct c)) (nw : NoAttr K (CTab.ct c) "written") (nr : NoAttr K (CTab.ct c) "rows") (nh : NoAttr K (CTab.ct c) "heads") (np : NoAttr K (CTab.ct c) "pairs") (nz : NoAttr K (CTab.ct c) "zigzag_rows")
    (s : Same B H) (M : MkO c B H x dx [] []) (rt : Rp B text v)
    (h1 : EvO t1 (some (.ref x) :: some v :: none :: n0) B H (some found)) (h2 : ∀ vf B' H', Same B B' → Rp B' found vf → EvT t2 (some (.ref x) :: some v :: some vf :: n0) B' H' (some false))
    (h4 : ∀ vf B' H', Same B B' → Rp B' found vf → EvO t4 (some (.ref x) :: some v :: some vf :: n0) B' H' (some heads))
    (h5 : ∀ vf B' H', Same B B' → Rp B' found vf → EvO t5 (some (.ref x) :: some v :: some vf :: n0) B' H' (some (.tpd prs)))
    (hm : m [.tpd prs] = some rows) (kQ : ∀ B2 H2 es, Gs (fun a => a = x) B H B2 H2 → MkO c B2 H2 x dx (webF text found heads (.tpd prs) rows) es → Q .non H2) :
    tSeq (tAsg t1 (gName 2)) (tSeq (tIfS t2 tr tNext) (tSeq (sFld K (tVar 0) (tVar 1) "written") (tSeq (sFld K (tVar 0) (tVar 2) "rows") (tSeq (sFld K (tVar 0) t4 "heads") (tSeq (sFld K (tVar 0) t5 "pairs")
      (tSeq (sFld K (tVar 0) (tCall (spU m) [] E (tCons (tFld K (tVar 0) "pairs") tNil)) "zigzag_rows") tNext)))))) { nx := fun _ H' => Q .non H', rt := Q } (some (.ref x) :: some v :: none :: n0) H := by
  refine h1 found rfl B H (At.refl s) _ fun vf B1 H1 g1 rf => ?_
  show tSeq _ _ _ (some (V.ref x) :: some v :: some vf :: n0) H1
  refine h2 vf B1 H1 g1.b rf false rfl B1 H1 (At.refl g1.bh) _ fun B2 H2 g2 => ?_
  obtain ⟨l1, l2, l3, l4⟩ := lenW text found heads (.tpd prs)
  have G2 : Gs (fun a => a = x) B H B2 H2 := .of (g1.trans g2)
  have M2 := M.go (g1.trans g2)
  refine q_fld M2 G2.bh cl nw rfl (eo_var rfl ((rt.kp (Kp.of G2.b)))) (by decide) fun B3 H3 es3 G3 M3 => ?_
  have B3' := G2.b.trans G3.b
  have rf3 : Rp B3 found vf := (rf.kp (Kp.of g2.b)).kp (Kp.of G3.b)
  refine q_fld M3 G3.bh cl nr rfl (eo_var rfl rf3) (by rw [l1]; decide) fun B4 H4 es4 G4 M4 => ?_
  have rf4 := rf3.kp (Kp.of G4.b)
  have B4' := B3'.trans G4.b
  refine q_fld M4 G4.bh cl nh rfl (h4 vf B4 H4 B4' rf4) l2 fun B5 H5 es5 G5 M5 => ?_
  have rf5 := rf4.kp (Kp.of G5.b)
  have B5' := B4'.trans G5.b
  refine q_fld M5 G5.bh cl np rfl (h5 vf B5 H5 B5' rf5) l3 fun B6 H6 es6 G6 M6 => ?_
  refine q_fldC M6 G6.bh cl nz np rfl (lookP text found heads (.tpd prs)) hm l4 fun B7 H7 es7 G7 M7 => ?_
  rw [putW] at M7
  exact kQ B7 H7 es7 (((((G2.trans G3).trans G4).trans G5).trans G6).trans G7) M7
end
end Dn
set_option Elab.async false
set_option linter.all false
set_option maxRecDepth 100000
set_option maxHeartbeats 2000000
namespace Dn
open PySem PySem.Spec PyProof.Rows L2
variable [CTab]
/-! ### zip of three sequences -/
def ItzY (K : PySem.W.Frag) (ka kb kc : Bool) (a b c : Addr) : It :=
  ⟨fun i H => ∃ (xs ys zs : List V) (x y z : V), SqX K H ka a xs ∧ SqX K H kb b ys ∧ SqX K H kc c zs ∧ xs[i]? = some x ∧ ys[i]? = some y ∧ zs[i]? = some z,
    fun i H v H' => ∃ T x y z, v = .ref T ∧ H T = none ∧ H' = upd H T (.tup [x, y, z]) ∧ (∀ xs, SqX K H ka a xs → xs[i]? = some x) ∧ (∀ ys, SqX K H kb b ys → ys[i]? = some y) ∧ ∀ zs, SqX K H kc c zs → zs[i]? = some z,
    fun i H => ∃ xs ys zs : List V, SqX K H ka a xs ∧ SqX K H kb b ys ∧ SqX K H kc c zs ∧ i ≤ xs.length ∧ i ≤ ys.length ∧ i ≤ zs.length ∧ (i = xs.length ∨ i = ys.length ∨ i = zs.length)⟩
theorem turn_zipY {P : Program} {w : World} {K : PySem.W.Frag} {elts : List Expr} {kk : Nat} {tpos : Pos} {ka kb kc : Bool} {a b c z TI TO i1 i2 i3 : Addr} (D : ZipSep3 z TI TO i1 i2 i3 [i1, a] [i2, b] [i3, c]) (na : a ≠ i1) (nb : b ≠ i2) (nc : c ≠ i3) :
    Turn P w K (.Tuple elts kk tpos) (ItzY K ka kb kc a b c) [z, TI, TO, i1, i2, i3] z (fun i h => IsZip h z TI TO .none ∧ IsTupOf3 h TI (.ref i1) (.ref i2) (.ref i3) ∧ (∃ x y u, IsTupOf3 h TO x y u) ∧ IterX ka h i1 a i ∧ IterX kb h i2 b i ∧ IterX kc h i3 c i) where
  mem := by simp
  obj := fun i h st q hq => by
    obtain ⟨hz, hTI, ⟨x, y, u, hTO⟩, h1, h2, h3⟩ := st
    have e' : q = z ∨ q = TI ∨ q = TO ∨ q = i1 ∨ q = i2 ∨ q = i3 := by simpa using hq
    rcases e' with q | q | q | q | q | q
    · rw [q]; exact ⟨_, hz, fun v q => nomatch q⟩
    · rw [q]; exact ⟨_, hTI, fun v q => nomatch q⟩
    · rw [q]; exact ⟨_, hTO, fun v q => nomatch q⟩
    · rw [q]; exact h1.ob
    · rw [q]; exact h2.ob
    · rw [q]; exact h3.ob
  keep := fun i h h' st k => by
    obtain ⟨hz, hTI, ⟨x, y, u, hTO⟩, h1, h2, h3⟩ := st
    exact ⟨k z (by simp) _ hz, k TI (by simp) _ hTI, ⟨x, y, u, k TO (by simp) _ hTO⟩, h1.at fun o q => k i1 (by simp) o q, h2.at fun o q => k i2 (by simp) o q, h3.at fun o q => k i3 (by simp) o q⟩
  item := by
    intro X hP hw hK hc i pins s σ H E I hf st hg
    subst hP hw hK
    obtain ⟨hz, hTI, ⟨x0, y0, u0, hTO⟩, h1, h2, h3⟩ := st
    obtain ⟨xs, ys, zs, x, y, t, hqx, hqy, hqz, hx, hy, ht⟩ := hg
    obtain ⟨its, rv, p, la⟩ := sqx_of I hqx
    obtain ⟨its2, rv2, p2, lb⟩ := sqx_of I hqy
    obtain ⟨its3, rv3, p3, lc⟩ := sqx_of I hqz
    obtain ⟨u, hu, ru⟩ := rv.get hx
    obtain ⟨u2, hu2, ru2⟩ := rv2.get hy
    obtain ⟨u3, hu3, ru3⟩ := rv3.get ht
    have hzl : z < s.heap.objs.size := Heap.lt_size hz
    have hh : X.A.in1.handled = none := I.ok.hd hc
    have hi1 : i < its.toArray.size := by simpa using (List.getElem?_eq_some_iff.mp hu).1
    have hi2 : i < its2.toArray.size := by simpa using (List.getElem?_eq_some_iff.mp hu2).1
    have hi3 : i < its3.toArray.size := by simpa using (List.getElem?_eq_some_iff.mp hu3).1
    refine wpAny_pyNext_zipD3_item D (drawsX hh ka i1 a na its.toArray) (drawsX hh kb i2 b nb its2.toArray) (drawsX hh kc i3 c nc its3.toArray) hz hTI hTO ⟨h1, p⟩ ⟨h2, p2⟩ ⟨h3, p3⟩ hi1 hi2 hi3 fun x1 x2 x3 h' tk e1 e2 e3 z' TO' st1' st2' st3' hT hsz hk => ?_
    have ex1 : x1 = u := by
      have : its[i]? = some x1 := by simpa using e1
      rw [hu] at this; cases this; rfl
    have ex2 : x2 = u2 := by
      have : its2[i]? = some x2 := by simpa using e2
      rw [hu2] at this; cases this; rfl
    have ex3 : x3 = u3 := by
      have : its3[i]? = some x3 := by simpa using e3
      rw [hu3] at this; cases this; rfl
    subst ex1 ex2 ex3
    refine ⟨_, rfl, wpAny_letOwnedTupleGo_zip (s := { s with heap := h', toks := tk }) z' fun h'' z'' sb => ?_⟩
    have hT2 : h''.get? s.heap.objs.size = some { cls := .type "tuple", data := .seq #[x1, x2, x3] } := (sb.2 _ (Nat.ne_of_gt hzl)).trans hT
    have new : ObjOk X.prog X.w (upd H s.heap.objs.size (.tup [x, y, t])) h'' s.heap.objs.size (.tup [x, y, t]) :=
      ⟨by show 3 ≤ sizeLine; decide, [x1, x2, x3], .cons ru (.cons ru2 (.cons ru3 .nil)), ⟨_, hT2, rfl, _, rfl⟩⟩
    have I1 : Inv X pins σ (upd H s.heap.objs.size (.tup [x, y, t])) { s with heap := h'', toks := tk } :=
      I.turnedNew (t' := tk) (ch := [z, TI, TO, i1, i2, i3]) (fun c o hb q => (sb.2 c (fun q' => hb (by simp [q']))).trans (hk c o (fun q' => hb (by simp [q'])) (fun q' => hb (by simp [q'])) (fun q' => hb (by simp [q'])) (fun q' => hb (by simp [q'])) (fun q' => hb (by simp [q'])) q)) hf (Nat.le_refl _) new
    refine ⟨.ref s.heap.objs.size, _, I1, rfl, ⟨_, x, y, t, rfl, I.hok.fresh (Nat.le_refl _), rfl, fun l hl => by rw [sqx_inj I hl hqx]; exact hx, fun l hl => by rw [sqx_inj I hl hqy]; exact hy, fun l hl => by rw [sqx_inj I hl hqz]; exact ht⟩, ⟨z'', ?_, ⟨x1, x2, x3, ?_⟩, ?_, ?_, ?_⟩, fun c hcm => ?_⟩
    · exact (sb.2 _ D.TIz).trans (hk _ _ D.TIz D.TITO D.TIi1 D.TIi2 D.TIi3 hTI)
    · exact (sb.2 _ D.TOz).trans TO'
    · exact st1'.1.at fun o q => (sb.2 _ D.zi1.symm).trans q
    · exact st2'.1.at fun o q => (sb.2 _ D.zi2.symm).trans q
    · exact st3'.1.at fun o q => (sb.2 _ D.zi3.symm).trans q
    · have hlt : c < s.heap.objs.size := by
        have e' : c = z ∨ c = TI ∨ c = TO ∨ c = i1 ∨ c = i2 ∨ c = i3 := by simpa using hcm
        rcases e' with q | q | q | q | q | q
        · rw [q]; exact hzl
        · rw [q]; exact Heap.lt_size hTI
        · rw [q]; exact Heap.lt_size hTO
        · rw [q]; obtain ⟨_, e1, _⟩ := h1.ob; exact Heap.lt_size e1
        · rw [q]; obtain ⟨_, e2, _⟩ := h2.ob; exact Heap.lt_size e2
        · rw [q]; obtain ⟨_, e3, _⟩ := h3.ob; exact Heap.lt_size e3
      rw [upd_ne (Nat.ne_of_lt hlt)]
      exact (hf c hcm).1
  done := by
    intro X hP hw hK hc i pins s σ H E I hf st hg
    subst hP hw hK
    obtain ⟨hz, hTI, ⟨x0, y0, u0, hTO⟩, h1, h2, h3⟩ := st
    obtain ⟨xs, ys, zs, hqx, hqy, hqz, hle1, hle2, hle3, hend⟩ := hg
    obtain ⟨its, rv, p, _⟩ := sqx_of I hqx
    obtain ⟨its2, rv2, p2, _⟩ := sqx_of I hqy
    obtain ⟨its3, rv3, p3, _⟩ := sqx_of I hqz
    have l1 := rv.length
    have l2 := rv2.length
    have l3 := rv3.length
    have hh : X.A.in1.handled = none := I.ok.hd hc
    exact wpAny_pyNext_zipD3_end D (drawsX hh ka i1 a na its.toArray) (drawsX hh kb i2 b nb its2.toArray) (drawsX hh kc i3 c nc its3.toArray) hz hTI hTO ⟨h1, p⟩ ⟨h2, p2⟩ ⟨h3, p3⟩ (by simp; omega) (by simp; omega) (by simp; omega) (by simp; omega) fun h' tk hk => ⟨rfl, I.turnedL (t' := tk) (ch := [z, TI, TO, i1, i2, i3]) (fun c o hb q =>
      hk c o (fun q' => hb (by simp [q'])) (fun q' => hb (by simp [q'])) (fun q' => hb (by simp [q'])) (fun q' => hb (by simp [q'])) (fun q' => hb (by simp [q'])) q) hf⟩
  self := fun A i s Q E st h => wpAny_pyIter_zip st.1 h
def iZip3 (K : PySem.W.Frag) (ta : TA) : TI := fun σ H R => ta σ H fun vs H1 => ∃ ka kb kc a b c xs ys zs, vs = [.ref a, .ref b, .ref c] ∧ SqX K H1 ka a xs ∧ SqX K H1 kb b ys ∧ SqX K H1 kc c zs ∧ R (ItzY K ka kb kc a b c) H1
theorem pi_zip3 {X : Cx} {K : PySem.W.Frag} {e e2 e3 : Expr} {ta tb tc : TE} {p pos tpos : Pos} {elts : List Expr} {kk : Nat} (hK : X.K = K) (hg : Gl X "zip") (hm : X.mg "zip" = none) (h1 : PE X e ta) (h2 : PE X e2 tb) (h3 : PE X e3 tc)
    (he1 : starEach [e, e2, e3] X.env = (false, eval e X.env) :: starEach [e2, e3] X.env := by rfl) (he2 : starEach [e2, e3] X.env = (false, eval e2 X.env) :: starEach [e3] X.env := by rfl) (he3 : starEach [e3] X.env = (false, eval e3 X.env) :: starEach [] X.env := by rfl) (hpl : (backTo pos (starEach [e2, e3] X.env)).any (·.1) = false := by rfl) :
    PI X (.Tuple elts kk tpos) (.Call (.Name "zip" p) [e, e2, e3] [] pos) (iZip3 K (tCons ta (tCons tb (tCons tc tNil)))) := by
  subst hK
  have ha : PA X [e, e2, e3] (tCons ta (tCons tb (tCons tc tNil))) := pa_cons h1 (pa_cons h2 (pa_cons h3 pa_nil he3) he2) he1
  refine ⟨fun pins s σ H R I h => ?_⟩
  refine Call_ (ld_blt I hg hm PyProof.Rows.boot_zip (PyProof.Rows.callWith_type1 (thn (ha.run pos pins s σ H _ I h) fun us s1 ⟨vs, H1, I1, r1, q1⟩ => ?_) he1 hpl))
  obtain ⟨ka, kb, kc, a, b, c, xs, ys, zs, ex, hqx, hqy, hqz, q⟩ := q1
  subst ex
  cases r1 with
  | cons r rr =>
    cases rr with
    | cons r' rr =>
     cases rr with
     | cons r'' rr =>
      cases rr
      cases r
      cases r'
      cases r''
      obtain ⟨its, rv, p1, la⟩ := sqx_of I1 hqx
      obtain ⟨its2, rv2, p2, lb⟩ := sqx_of I1 hqy
      obtain ⟨its3, rv3, p3, lc⟩ := sqx_of I1 hqz
      obtain ⟨o1, b1, it1⟩ := beginsX ka a its.toArray
      obtain ⟨o2, b2, it2⟩ := beginsX kb b its2.toArray
      obtain ⟨o3, b3, it3⟩ := beginsX kc c its3.toArray
      refine zip_begins3 b1 b2 b3 p1 p2 p3 fun h' hz hTI hTO g1 g2 g3 hsz hk => wpAny_pyIter_zip hz ?_
      have I2 : Inv X pins σ H1 { s1 with heap := h' } := I1.kept (t' := s1.toks) hk
      refine ⟨s1.heap.objs.size + 5, [s1.heap.objs.size + 5, s1.heap.objs.size + 3, s1.heap.objs.size + 4, s1.heap.objs.size, s1.heap.objs.size + 1, s1.heap.objs.size + 2], _, _, H1, rfl, I2,
        turn_zipY (zip_sep3 (fp1 := [a]) (fp2 := [b]) (fp3 := [c]) (by simpa using la) (by simpa using lb) (by simpa using lc)) (Nat.ne_of_lt la) (Nat.ne_of_lt (Nat.lt_succ_of_lt lb)) (Nat.ne_of_lt (Nat.lt_succ_of_lt (Nat.lt_succ_of_lt lc))), ⟨hz, hTI, ⟨_, _, _, hTO⟩, it1 _ _ g1, it2 _ _ g2, it3 _ _ g3⟩, fun c hcm => ?_, q⟩
      have e' : c = s1.heap.objs.size + 5 ∨ c = s1.heap.objs.size + 3 ∨ c = s1.heap.objs.size + 4 ∨ c = s1.heap.objs.size ∨ c = s1.heap.objs.size + 1 ∨ c = s1.heap.objs.size + 2 := by simpa using hcm
      have hle : s1.heap.objs.size ≤ c := by
        rcases e' with z | z | z | z | z | z
        · rw [z]; exact Nat.le_add_right _ _
        · rw [z]; exact Nat.le_add_right _ _
        · rw [z]; exact Nat.le_add_right _ _
        · rw [z]; exact Nat.le_refl _
        · rw [z]; exact Nat.le_add_right _ _
        · rw [z]; exact Nat.le_add_right _ _
      exact I1.fpOk hle (I1.hok.fresh hle)
def zipL3 : List U → List U → List U → List U
  | x :: xs, y :: ys, z :: zs => .tup [x, y, z] :: zipL3 xs ys zs
  | _, _, _ => []
theorem zipL3_length : ∀ (xs ys zs : List U), (zipL3 xs ys zs).length = min xs.length (min ys.length zs.length)
  | [], _, _ => by simp [zipL3]
  | _ :: _, [], _ => by simp [zipL3]
  | _ :: _, _ :: _, [] => by simp [zipL3]
  | x :: xs, y :: ys, z :: zs => by simp only [zipL3, List.length_cons, zipL3_length xs ys zs]; omega
theorem zipL3_get : ∀ {xs ys zs : List U} {i : Nat} {x y z : U}, xs[i]? = some x → ys[i]? = some y → zs[i]? = some z → (zipL3 xs ys zs)[i]? = some (.tup [x, y, z])
  | [], _, _, i, x, y, z, h, _, _ => by simp at h
  | _ :: _, [], _, i, x, y, z, _, h, _ => by simp at h
  | _ :: _, _ :: _, [], i, x, y, z, _, _, h => by simp at h
  | a :: xs, b :: ys, c :: zs, 0, x, y, z, h, h', h'' => by simp at h h' h''; subst h h' h''; rfl
  | a :: xs, b :: ys, c :: zs, i + 1, x, y, z, h, h', h'' => by
    have := zipL3_get (xs := xs) (ys := ys) (zs := zs) (i := i) (x := x) (y := y) (z := z) (by simpa using h) (by simpa using h') (by simpa using h'')
    simpa [zipL3] using this
def zip3S (F G L : SM U) : SM (List U) := bindS F fun x => bindS G fun y => bindS L fun z => pureS (x.items.bind fun xs => y.items.bind fun ys => z.items.map fun zs => zipL3 xs ys zs)
section
variable {M : Addr → Prop} {ps : List Addr} {σ : L2.St} {B H : Hp} {ta tb tc : TE} {F G L : SM U} {K : PySem.W.Frag}
theorem eis_zip3 (ha : EvS M ps σ B ta F) (hb : EvS M ps σ B tb G) (hc : EvS M ps σ B tc L) : EvIS M ps σ B (iZip3 K (tCons ta (tCons tb (tCons tc tNil)))) (zip3S F G L) := fun us zs us' e B1 H1 g w R q => by
  obtain ⟨x, us1, ex, e⟩ := bindS_some e
  obtain ⟨y, us2, ey, e⟩ := bindS_some e
  obtain ⟨z, us3, ez, e⟩ := bindS_some e
  obtain ⟨ee, rfl⟩ := pureS_some e; clear e
  obtain ⟨xs, exs, ee⟩ := bind_some ee
  obtain ⟨ys, eys, ee⟩ := bind_some ee
  obtain ⟨ts, ets, ee⟩ := map_some ee
  subst ee
  refine ha _ _ _ ex B1 H1 g w _ fun v B2 H2 g2 r2 w2 => hb _ _ _ ey B2 H2 (g.trs g2) w2 _ fun v' B3 H3 g3 r3 w3 => hc _ _ _ ez B3 H3 ((g.trs g2).trs g3) w3 _ fun v'' B4 H4 g4 r4 w4 => ?_
  obtain ⟨ka, a, vs, rfl, ra, sa⟩ := sqx_items (K := K) exs ((r2.upA g3.at).upA g4.at)
  obtain ⟨kb, b, ws, rfl, rb, sb⟩ := sqx_items (K := K) eys (r3.upA g4.at)
  obtain ⟨kc, c, zs, rfl, rc, sc⟩ := sqx_items (K := K) ets r4
  refine ⟨ka, kb, kc, a, b, c, vs, ws, zs, rfl, sa H4 g4.bh, sb H4 g4.bh, sc H4 g4.bh, q _ B4 H4 ((g2.trans g3).trans g4) ?_ w4⟩
  have l1 := ra.length
  have l2 := rb.length
  have l3 := rc.length
  have hl := zipL3_length xs ys ts
  refine ⟨fun i H' hi s => ?_, fun H' s => ?_, fun i H' v H'' B' hi s1 s2 y => ?_⟩
  · have h1 : i < vs.length := by omega
    have h2 : i < ws.length := by omega
    have h3 : i < zs.length := by omega
    exact ⟨vs, ws, zs, vs[i], ws[i], zs[i], sa H' s, sb H' s, sc H' s, by simp [h1], by simp [h2], by simp [h3]⟩
  · rw [hl]
    exact ⟨vs, ws, zs, sa H' s, sb H' s, sc H' s, by omega, by omega, by omega, by omega⟩
  · obtain ⟨T, x1, y1, z1, e1, e2, e3, f1, f2, f3⟩ := y
    subst e1 e3
    obtain ⟨u1, eu1, ru1⟩ := ra.back (f1 vs (sa H' (s1.trans s2)))
    obtain ⟨u2, eu2, ru2⟩ := rb.back (f2 ws (sb H' (s1.trans s2)))
    obtain ⟨u3, eu3, ru3⟩ := rc.back (f3 zs (sc H' (s1.trans s2)))
    exact ⟨_, _, Go.new s2 e2, zipL3_get eu1 eu2 eu3, .tup upd_same ((Rps.cons (ru1.kp (Kp.of s1)) (.cons (ru2.kp (Kp.of s1)) (.cons (ru3.kp (Kp.of s1)) .nil))).new s2 e2)⟩
end
end Dn
set_option Elab.async false
set_option linter.all false
set_option maxRecDepth 100000
set_option maxHeartbeats 2000000
namespace Dn
open PySem PySem.Spec PyProof.Rows L2
section
variable {X : Cx}
/-! ### str(x) of a text or an int -/
def rStrB : List V → Hp → VK → Prop := fun xs H Q => (∃ a, xs = [V.str a] ∧ Q (.str a) H) ∨ ∃ i : Int, xs = [V.int i] ∧ i.natAbs.log2 < 1920 ∧ Q (.str (toString i)) H
theorem call_strB [CTab] : CallR X (.type "str") rStrB := CallR.or SkE.call_str_str call_str_int
/-! ### t.index(x), a known tuple -/
theorem pe_tidx {o e : Expr} {apos cpos : Pos} {to : TE} {t : TA} (hu : X.A.units + 64 < cLine) (ho : PE X o to) (ha : PA X [e] t) (hbase : attributeBase o "index" X.env (eval o X.env) = eval o X.env := by rfl)
    (hfew : ((backTo cpos (starEach [e] X.env)).all (fun x => !x.1) && (backToKw cpos (keywordEach [] X.env)).all (fun x => x.1.isSome)
      && decide ([e].length + ([] : List Keyword).length + (if ([] : List Keyword).isEmpty then 0 else 1) < 30)) = true := by rfl)
    (hline : (apos.endLine == cpos.line) = true := by rfl) (hs : starEach [e] X.env = (false, eval e X.env) :: starEach [] X.env := by rfl) (hplain : (backTo cpos (starEach [] X.env)).any (·.1) = false := by rfl) [CTab] :
    PE X (.Call (.Attribute o "index" apos) [e] [] cpos) (tTM rTIdx to t) := pe_tm PySem.F.slot_tuple_index PySem.F.type_tuple_index (mt_tidx hu) ho ha hbase hfew hline hs hplain
/-! ### a property -/
theorem pe_propK {K : PySem.W.Frag} {CX : CXT} {k : Nat} {C p g : Addr} {f : Str} {fd : FuncData} {ps : List Str} {sp : Sp} {E : XK} {e : Expr} {pos : Pos} {ta : TE} (hK : X.K = K) (he : PE X e ta) (c : Cls K C) (hp : PropOf K C f p g) (F : FnOk X.prog X.w X.K X.mg X.base CX k g fd ps sp) (hr : Room (k + 1) X.A) (hb : Binds K fd ps [])
    (hx : Passes CX X.nox E) (hab : attributeBase e f X.env (eval e X.env) = eval e X.env := by rfl) : PE X (.Attribute e f pos) (tProp C sp [] E ta) := by
  subst hK
  exact pe_prop he c hp F hr hb .nil hx hab
end
variable [CTab]
def strBV : U → Option U
  | .str s => some (.str s)
  | .int i => if i.natAbs.log2 < 1920 then some (.str (toString i)) else none
  | _ => none
theorem rc_strB : RC rStrB (c1 strBV) := rc_one c1_one fun x z e v B H s rx Q q => by
  cases rx with
  | str a => cases e; exact .inl ⟨a, rfl, q _ B H (Go.refl s) (.str a)⟩
  | int i =>
    have e5 : (if i.natAbs.log2 < 1920 then some (U.str (toString i)) else none) = some z := e
    clear e
    split at e5
    · rename_i h
      cases e5
      exact .inr ⟨i, rfl, h, q _ B H (Go.refl s) (.str _)⟩
    · cases e5
  | _ => cases e
/-! ### f'..' -/
def fmtV : U → Option U
  | .str y => if y.length ≤ lim then some (.str y) else none
  | .int i => if i.natAbs.log2 < 1920 then some (.str (toString i)) else none
  | _ => none
section
variable {σ : L2.St} {B H : Hp} {ta : TE} {oa : Option U}
theorem eo_fmt (h : EvO ta σ B H oa) : EvO (tFmt ta) σ B H (op1 fmtV oa) := fun z e B1 H1 g Q q => by
  obtain ⟨x, ex, e⟩ := bind_some e
  refine h x ex B1 H1 g _ fun v B2 H2 g2 r => ?_
  cases r with
  | str y =>
    have e5 : (if y.length ≤ lim then some (U.str y) else none) = some z := e
    clear e
    split at e5
    · rename_i hy
      cases e5
      exact .inl ⟨y, rfl, lim_size hy, q _ B2 H2 g2 (.str y)⟩
    · cases e5
  | int i =>
    have e5 : (if i.natAbs.log2 < 1920 then some (U.str (toString i)) else none) = some z := e
    clear e
    split at e5
    · rename_i h
      cases e5
      exact .inr ⟨i, rfl, h, q _ B2 H2 g2 (.str _)⟩
    · cases e5
  | _ => cases e
inductive Jo (σ : L2.St) (B H : Hp) : List TE → List (Option U) → Prop
  | nil : Jo σ B H [] []
  | cons {t : TE} {o : Option U} {ts : List TE} {os : List (Option U)} : EvO t σ B H o → Jo σ B H ts os → Jo σ B H (t :: ts) (o :: os)
def joinO : List (Option U) → Str → Option U
  | [], acc => some (.str acc)
  | o :: os, acc => o.bind fun u => u.asS.bind fun y => if (acc ++ y).length ≤ lim then joinO os (acc ++ y) else none
theorem jo_run : ∀ {ts : List TE} {os : List (Option U)}, Jo σ B H ts os → ∀ (acc : Str) (z : U), joinO os acc = some z → ∀ B1 H1, At B B1 H1 → ∀ Q : VK, (∀ v B2 H2, Go B1 H1 B2 H2 → Rp B2 z v → Q v H2) → tJs ts acc σ H1 fun out H2 => Q (.str out) H2
  | _, _, .nil, acc, z, e, B1, H1, g, Q, q => by
    cases e
    exact q _ B1 H1 (Go.refl g.bh) (.str acc)
  | _, _, .cons h t, acc, z, e, B1, H1, g, Q, q => by
    obtain ⟨u, eu, e⟩ := bind_some e
    obtain ⟨y, ey, e6⟩ := bind_some e
    clear e
    split at e6
    · rename_i hl
      refine h u eu B1 H1 g _ fun v B2 H2 g2 r => ?_
      cases u <;> cases ey
      cases r
      exact ⟨y, rfl, lim_size hl, jo_run t _ z e6 B2 H2 (g.trans g2) Q fun v B3 H3 g3 r3 => q v B3 H3 (g2.trans g3) r3⟩
    · cases e6
theorem eo_joined {ts : List TE} {os : List (Option U)} (h : Jo σ B H ts os) : EvO (fun σ H Q => tJs ts Str.empty σ H fun out H1 => Q (.str out) H1) σ B H (joinO os Str.empty) := fun z e B1 H1 g Q q =>
  jo_run h Str.empty z e B1 H1 g Q q
/-- {} kept for good -/
theorem eo_dnil : EvO (tFrz tDNewK) σ B H (some (.dic [])) := fun z e B1 H1 g Q q p hp => by
  cases e
  refine ⟨p, _, rfl, upd_same, trivial, fun od => ?_⟩
  have e0 : upd (upd H1 p (.dK [])) p (.frz od (.dK [])) = upd H1 p (.frz od (.dK [])) := by
    funext a
    by_cases h : a = p
    · subst h; rw [upd_same, upd_same]
    · rw [upd_ne h, upd_ne h, upd_ne h]
  rw [e0]
  exact q _ _ _ (Go.new g.bh hp) (.dic upd_same .nil)
/-- the end of a def without a return -/
theorem q_fall {B0 H0 : Hp} {r : U} {Q : VK} (e : some U.non = some r) (g : Go B0 H0 B H) (k : ∀ v B2 H2, Go B0 H0 B2 H2 → Rp B2 r v → Q v H2) : Q .non H := by
  cases e
  exact k .non B H g .non
end
end Dn
set_option Elab.async false
set_option linter.all false
set_option maxRecDepth 100000
set_option maxHeartbeats 2000000
namespace Dn
open PySem PySem.Spec PyProof.Rows L2
variable [CTab]
theorem g_unp3S {α : Type} {R : α × List U} {K : PySem.W.Frag} {u : U} {v : V} {B H : Hp} {σ : L2.St} {Q : L2.St → Hp → Prop} {i0 i1 i2 : Nat} {f : U → U → U → SM α} {us : List U} (s : Same B H) (r : Rp B u v) (e : unpS3 u f us = some R)
    (k : ∀ a b c x y z, Rp B a x → Rp B b y → Rp B c z → f a b c us = some R → Q (((σ.set i0 (some x)).set i1 (some y)).set i2 (some z)) H) : gAnyT K 3 (gCons (gName i0) (gCons (gName i1) (gCons (gName i2) gNil))) v σ H Q := by
  obtain ⟨⟨a, b, c⟩, eu, e⟩ := bind_some e
  exact g_unp3 s r eu fun x y z ra rb rc => k a b c x y z ra rb rc e
/-- one's own list, kept for good from here on -/
theorem q_keepS {α : Type} {R : α × List U} {β : Bs} {B H : Hp} {ps : List Addr} {us : List U} {j : Nat} {p : Addr} {f : U → SM α} {G : Prop} (W : Wh β B H ps us) (hp : ps[j]? = some p) (e : bindS (takeS j) f us = some R)
    (k : ∀ x B1 us1, Wh β B1 H ps us1 → Same B B1 → Rp B1 x (.ref p) → f x us1 = some R → G) : G := by
  obtain ⟨z, us', ez, e⟩ := bindS_some e
  unfold takeS at ez
  split at ez
  · rename_i xs eu
    cases ez
    have wp := W.w.at_ j p _ hp eu
    obtain ⟨hb, vs, e1, r⟩ := wp.own rfl
    have s1 : Same B (upd B p (.lst vs)) := same_lock hb
    have sb : Same (upd B p (.lst vs)) H := fun b x hx => by
      by_cases hbp : b = p
      · subst hbp; rw [upd_same] at hx; rw [e1]; exact hx
      · rw [upd_ne hbp] at hx; exact W.s b x hx
    refine k _ (upd B p (.lst vs)) _ (W.step ⟨fun a o e _ => e, fun a e => e, s1, sb, fun a o e => ?_⟩ ?_) s1 (.lst upd_same (r.kp (Kp.of s1))) e
    · by_cases ha : a = p
      · subst ha; exact .inr (.inr (List.mem_of_getElem? hp))
      · rw [upd_ne ha] at e; exact .inl e
    · exact W.w.set hp (fun q _ _ o e => e) s1 (fun q _ hq hn => by rw [upd_ne hq]; exact hn) ⟨wp.m, ⟨_, e1⟩, .inl rfl⟩
  · cases ez
end Dn
set_option Elab.async false
set_option linter.all false
set_option maxRecDepth 100000
set_option maxHeartbeats 2000000
namespace Dn
open PySem PySem.Spec PyProof.Rows L2
/-! ### a text times a number -/
def repS (z : Str) (n : Nat) : Str := ⟨(List.replicate n z.cps).foldl (· ++ ·) #[]⟩
def rMulS : R2 := fun x y H Q => ∃ (z : Str) (n : Int), x = .str z ∧ y = .int n ∧ 2 ≤ n ∧ n ≤ 1000 ∧ 0 < z.length ∧ z.length * n.toNat ≤ 100000 ∧ Q (.str (repS z n.toNat)) H
theorem fold_size : ∀ (n : Nat) (a : Array Nat) (acc : Array Nat), ((List.replicate n a).foldl (· ++ ·) acc).size = acc.size + a.size * n
  | 0, a, acc => by simp
  | n + 1, a, acc => by
    rw [List.replicate_succ, List.foldl_cons, fold_size n a]
    simp only [Array.size_append, Nat.mul_add]
    omega
section
variable {X : Cx}
theorem op_mulS : OpR X (binaryOp .Mult) rMulS := by
  intro pins s σ H x y v u Q I rx ry h
  obtain ⟨z, n, rfl, rfl, h1, h2, h3, h4, q⟩ := h
  obtain ⟨t, rfl⟩ := rx
  obtain ⟨t', rfl⟩ := ry
  have n1 : ¬ n < 1 := by omega
  have n2 : ¬ (n == 1 || z.length == 0) = true := by
    simp only [Bool.or_eq_true, beq_iff_eq, not_or]
    omega
  have hl : z.length ≤ 100000 := Nat.le_trans (Nat.le_mul_of_pos_right _ (by omega)) h4
  refine PySem.P.mul_str ?_ (fun _ _ => ?_) (fun _ _ => ?_) ?_
  · rw [decide_eq_false (by omega), decide_eq_false (by omega)]; rfl
  · have : (100000 : Int) ≤ (2 ^ 63 - 1) / n := by
      refine Int.le_ediv_of_mul_le (by omega) ?_
      have : 100000 * n ≤ 100000 * 1000 := by omega
      omega
    omega
  · have : z.length * n.toNat ≤ sizeLine := Nat.le_trans h4 (by decide)
    exact decide_eq_false (by omega)
  · rw [if_neg n1, if_neg n2]
    refine ⟨?_, .str (repS z n.toNat), H, I.tok _, ⟨_, rfl⟩, q⟩
    show ((List.replicate n.toNat z.cps).foldl (· ++ ·) #[]).size ≤ sizeLine
    rw [fold_size]
    have : z.cps.size * n.toNat ≤ 100000 := h4
    have : (100000 : Nat) ≤ sizeLine := by decide
    simp only [Array.size_empty] <;> omega
end
variable [CTab]
def mulSV : U → U → Option U
  | .str z, .int n => if 2 ≤ n ∧ n ≤ 1000 ∧ 0 < z.length ∧ z.length * n.toNat ≤ 100000 then some (.str (repS z n.toNat)) else none
  | _, _ => none
theorem rv_mulS : RV rMulS mulSV := fun x y z e v w B H s rx ry Q q => by
  cases rx with
  | str a =>
    cases ry with
    | int n =>
      have e5 : (if 2 ≤ n ∧ n ≤ 1000 ∧ 0 < a.length ∧ a.length * n.toNat ≤ 100000 then some (U.str (repS a n.toNat)) else none) = some z := e
      clear e
      split at e5
      · rename_i h
        cases e5
        exact ⟨a, n, rfl, rfl, h.1, h.2.1, h.2.2.1, h.2.2.2, q _ B H (Go.refl s) (.str _)⟩
      · cases e5
    | _ => cases e
  | _ => cases e
end Dn
set_option Elab.async false
set_option linter.all false
set_option maxRecDepth 100000
set_option maxHeartbeats 2000000
namespace Dn
open PySem PySem.Spec PyProof.Rows L2
/-! ### data that repr shows in little room -/
structure Sh (u : U) (d : PyData) (k n : Nat) : Prop where
  py : u.py = some d
  sh : d.showable = true
  nd : d.hasDict = false
  dp : d.depth ≤ k
  lv : d.leavesShort 8 = true
  wt : d.weight ≤ n
structure Shs (us : List U) (ds : List PyData) (k n : Nat) : Prop where
  py : U.pys us = some ds
  sh : PyData.showableAll ds = true
  nd : PyData.hasDictAll ds = false
  dp : PyData.depthAll ds ≤ k
  lv : PyData.leavesShortAll 8 ds = true
  wt : PyData.weightAll ds ≤ n
theorem Sh.str {s : Str} {n : Nat} (h : ∀ c ∈ s.cps.toList, c < 16 ^ 8) (hl : s.length ≤ n) : Sh (.str s) (.str s) 0 n :=
  ⟨by simp [U.py], by simp [PyData.showable], by simp [PyData.hasDict], by simp [PyData.depth], by simp only [PyData.leavesShort, List.all_eq_true, decide_eq_true_eq]; exact h, by simp only [PyData.weight]; exact hl⟩
theorem Sh.bl {b : Bool} : Sh (.bl b) (.bool b) 0 0 := ⟨by simp [U.py], by simp [PyData.showable], by simp [PyData.hasDict], by simp [PyData.depth], by simp [PyData.leavesShort], by simp [PyData.weight]⟩
theorem Sh.non : Sh .non .none 0 0 := ⟨by simp [U.py], by simp [PyData.showable], by simp [PyData.hasDict], by simp [PyData.depth], by simp [PyData.leavesShort], by simp [PyData.weight]⟩
theorem Sh.mono {u : U} {d : PyData} {k n k' n' : Nat} (h : Sh u d k n) (hk : k ≤ k') (hn : n ≤ n') : Sh u d k' n' := ⟨h.py, h.sh, h.nd, Nat.le_trans h.dp hk, h.lv, Nat.le_trans h.wt hn⟩
theorem Shs.mono {u : List U} {d : List PyData} {k n k' n' : Nat} (h : Shs u d k n) (hk : k ≤ k') (hn : n ≤ n') : Shs u d k' n' := ⟨h.py, h.sh, h.nd, Nat.le_trans h.dp hk, h.lv, Nat.le_trans h.wt hn⟩
theorem Shs.nil {k : Nat} : Shs [] [] k 0 := ⟨by simp [U.pys], by simp [PyData.showableAll], by simp [PyData.hasDictAll], by simp [PyData.depthAll], by simp [PyData.leavesShortAll], by simp [PyData.weightAll]⟩
theorem Shs.cons {u : U} {d : PyData} {us : List U} {ds : List PyData} {k m n : Nat} (h : Sh u d k m) (t : Shs us ds k n) : Shs (u :: us) (d :: ds) k (m + 1 + n) := by
  refine ⟨by simp [U.pys, h.py, t.py], by simp [PyData.showableAll, h.sh, t.sh], by simp [PyData.hasDictAll, h.nd, t.nd], ?_, by simp [PyData.leavesShortAll, h.lv, t.lv], ?_⟩
  · have := h.dp
    have := t.dp
    simp only [PyData.depthAll]
    omega
  · have := h.wt
    have := t.wt
    simp only [PyData.weightAll]
    omega
theorem Sh.tup {us : List U} {ds : List PyData} {k n : Nat} (t : Shs us ds k n) : Sh (.tup us) (.tuple ds) (k + 1) n := by
  refine ⟨by simp [U.py, t.py], by simp [PyData.showable, t.sh], by simp [PyData.hasDict, t.nd], ?_, by simp [PyData.leavesShort, t.lv], ?_⟩
  · have := t.dp; simp only [PyData.depth]; omega
  · have := t.wt; simp only [PyData.weight]; omega
theorem Sh.tpd {us : List U} {ds : List PyData} {k n : Nat} (t : Shs us ds k n) : Sh (.tpd us) (.tuple ds) (k + 1) n := by
  refine ⟨by simp [U.py, t.py], by simp [PyData.showable, t.sh], by simp [PyData.hasDict, t.nd], ?_, by simp [PyData.leavesShort, t.lv], ?_⟩
  · have := t.dp; simp only [PyData.depth]; omega
  · have := t.wt; simp only [PyData.weight]; omega
theorem Sh.lst {us : List U} {ds : List PyData} {k n : Nat} (t : Shs us ds k n) : Sh (.lst us) (.list ds) (k + 1) n := by
  refine ⟨by simp [U.py, t.py], by simp [PyData.showable, t.sh], by simp [PyData.hasDict, t.nd], ?_, by simp [PyData.leavesShort, t.lv], ?_⟩
  · have := t.dp; simp only [PyData.depth]; omega
  · have := t.wt; simp only [PyData.weight]; omega
theorem Shs.map {α : Type} {g : α → U} {h : α → PyData} {k m : Nat} : ∀ (l : List α), (∀ a ∈ l, Sh (g a) (h a) k m) → Shs (l.map g) (l.map h) k (l.length * (m + 1))
  | [], _ => Shs.nil.mono (Nat.le_refl _) (Nat.zero_le _)
  | a :: l, hh => by
    have ih := Shs.map l fun x hx => hh x (List.mem_cons_of_mem _ hx)
    refine (Shs.cons (hh a (List.mem_cons_self ..)) ih).mono (Nat.le_refl _) ?_
    rw [List.length_cons, Nat.add_mul, Nat.one_mul]
    omega
theorem Sh.repr {u : U} {d : PyData} {k n : Nat} (h : Sh u d k n) (hk : k ≤ 40) (hn : n ≤ 9000) : callO (c1 reprV) (consO (some u) (some [])) = some (.str d.shown) := by
  show reprV u = _
  unfold reprV
  have h1 := PyData.shown_le 8 (by decide) d h.lv
  have h2 := h.wt
  have hlim : lim = 100000 := rfl
  have h3 : (8 + 2) * d.weight ≤ 10 * 9000 := Nat.mul_le_mul (by decide) (by omega)
  have h4 : d.shown.length ≤ lim := by omega
  rw [h.py, Option.bind_some, if_pos ⟨h.sh, h.nd, Nat.le_trans h.dp hk, h4⟩]
end Dn
set_option Elab.async false
set_option linter.all false
set_option maxRecDepth 100000
set_option maxHeartbeats 2000000
namespace Dn
open PySem PySem.Spec PyProof.Rows L2
variable [CTab]
/-! ### enumerate of a list or a tuple -/
set_option maxHeartbeats 4000000 in
theorem meets_enum1 {v : Value} {o : Obj} {H : Heap → Prop} (B : Begins v o H) :
    Meets (Builtin.«enumerate.__new__» ⟨[.type "enumerate", v], []⟩) (fun _ R s => H s.heap ∧
      R (.ok (.ret (.ref (s.heap.push o).objs.size))) { s with heap := (s.heap.push o).push { cls := .type "enumerate", data := .fields #[.none, .bool false, .ref s.heap.objs.size, rawInt 0, .none, .none] } }) :=
  .of_wp fun prog w A R s h => by
    obtain ⟨hp, g, d, tk, os⟩ := s; obtain ⟨h1, h⟩ := h
    have hsub := sub_enumerate
    have q1 : ∀ {A' : Around} {E : Value → Shared → Prop} {Q : Value → Shared → Prop}, Q (.ref hp.objs.size) ⟨hp.push o, g, d, tk, os⟩ → wpAny (model prog w) A' (pyIter v) Q E ⟨hp, g, d, tk, os⟩ :=
      fun q => B.iter prog w _ _ ⟨hp, g, d, tk, os⟩ _ h1 q
    wp_walk using q1
    refine wpAny_stack_any fun st => wpAny_pure ?_
    split
    · rename_i c _ _ _ _ _
      cases (c == Value.type "enumerate")
      · wp_walk using q1
        exact ⟨_, rfl, h⟩
      · wp_walk using q1
        exact ⟨_, rfl, h⟩
    · wp_walk using q1
      exact ⟨_, rfl, h⟩
theorem enum_begins1 {prog : Program} {w : World} {A : Around} {E : Value → Shared → Prop} {s : Shared} {v : Value} {o : Obj} {H : Heap → Prop} {Q : Value → Shared → Prop} (B : Begins v o H) (h1 : H s.heap)
    (h : ∀ h', IsEnum h' (s.heap.objs.size + 1) s.heap.objs.size 0 .none → h'.get? s.heap.objs.size = some o → h'.objs.size = s.heap.objs.size + 2 →
      (∀ b o, s.heap.get? b = some o → h'.get? b = some o) → Q (.ref (s.heap.objs.size + 1)) { s with heap := h' }) :
    wpAny (model prog w) A (call (.type "enumerate") [v]) Q E s := by
  refine callType_new F.called_enumerate (by decide) (F.typeCall_enumerate_1 _) (F.newCall_enumerate_1 _) (fun obj => F.args_object_init_2 obj _) F.entry_enumerate_new (meets_enum1 B) ⟨h1, ?_⟩
  have hz : (s.heap.push o).objs.size = s.heap.objs.size + 1 := Heap.size_push ..
  show _ ∧ _
  rw [hz]
  have he : IsEnum ((s.heap.push o).push { cls := .type "enumerate", data := .fields #[.none, .bool false, .ref s.heap.objs.size, rawInt 0, .none, .none] }) (s.heap.objs.size + 1) s.heap.objs.size 0 .none := by
    have := Heap.get?_push_size (s.heap.push o) (o := { cls := .type "enumerate", data := .fields #[.none, .bool false, .ref s.heap.objs.size, rawInt 0, .none, .none] }) rfl
    rw [hz] at this; exact this
  refine ⟨⟨_, he, rfl⟩, h _ he (Heap.get?_push_of_some _ (Heap.get?_push_size _ B.free)) (by rw [Heap.size_push, hz]) fun b o x => Heap.get?_push_of_some _ (Heap.get?_push_of_some _ x)⟩
def IteX (K : PySem.W.Frag) (k : Bool) (a : Addr) : It :=
  ⟨fun i H => ∃ (xs : List V) (x : V), SqX K H k a xs ∧ xs[i]? = some x, fun i H v H' => ∃ T x, v = .ref T ∧ H T = none ∧ H' = upd H T (.tup [.int (i : Nat), x]) ∧ ∀ xs, SqX K H k a xs → xs[i]? = some x, fun i H => ∃ xs : List V, SqX K H k a xs ∧ i = xs.length⟩
theorem turn_enumX {P : Program} {w : World} {K : PySem.W.Frag} {elts : List Expr} {kk : Nat} {tpos : Pos} {k : Bool} (a e it : Addr) (hai : a ≠ it) (hae : a ≠ e) :
    Turn P w K (.Tuple elts kk tpos) (IteX K k a) [e, it] e (fun i h => (∃ old, IsEnum h e it ((i : Nat) : Int) old) ∧ IterX k h it a i ∧ e ≠ it) where
  mem := by simp
  obj := fun i h st b hb => by
    obtain ⟨⟨old, he⟩, h1, _⟩ := st
    have e' : b = e ∨ b = it := by simpa using hb
    rcases e' with z | z
    · rw [z]; exact ⟨_, he, fun v q => nomatch q⟩
    · rw [z]; exact h1.ob
  keep := fun i h h' st k => let ⟨⟨old, he⟩, hi, hne⟩ := st; ⟨⟨old, k e (by simp) _ he⟩, hi.at fun o q => k it (by simp) o q, hne⟩
  item := by
    intro X hP hw hK hc i pins s σ H E I hf st hg
    subst hP hw hK
    obtain ⟨⟨old, he⟩, hit, hne⟩ := st
    obtain ⟨xs, x, hq, hx⟩ := hg
    obtain ⟨its, rv, p, la⟩ := sqx_of I hq
    obtain ⟨u, hu, ru⟩ := rv.get hx
    have hel : e < s.heap.objs.size := Heap.lt_size he
    have hil : it < s.heap.objs.size := by obtain ⟨_, q, _⟩ := hit.ob; exact Heap.lt_size q
    have hh : X.A.in1.handled = none := I.ok.hd hc
    have hi1 : i < its.toArray.size := by simpa using (List.getElem?_eq_some_iff.mp hu).1
    refine wpAny_pyNext_enum_itemD (drawsX hh k it a hai its.toArray) he ⟨hit, p⟩ hi1 hne (by simp [hne, hae.symm]) fun x1 h' tk e1 ho hit' hT hsz hk => ?_
    have ex1 : x1 = u := by
      have : its[i]? = some x1 := by simpa using e1
      rw [hu] at this; cases this; rfl
    subst ex1
    refine ⟨_, rfl, wpAny_letOwnedTupleGo_enum (s := { s with heap := h', toks := tk + 1 }) ho fun h'' he' sb => ?_⟩
    have hT2 : h''.get? s.heap.objs.size = some { cls := .type "tuple", data := .seq #[.int i tk, x1] } := (sb.2 _ (Nat.ne_of_gt hel)).trans hT
    have new : ObjOk X.prog X.w (upd H s.heap.objs.size (.tup [.int (i : Nat), x])) h'' s.heap.objs.size (.tup [.int (i : Nat), x]) :=
      ⟨by show 2 ≤ sizeLine; decide, [.int i tk, x1], .cons ⟨_, rfl⟩ (.cons ru .nil), ⟨_, hT2, rfl, _, rfl⟩⟩
    have I1 : Inv X pins σ (upd H s.heap.objs.size (.tup [.int (i : Nat), x])) { s with heap := h'', toks := tk + 1 } :=
      I.turnedNew (t' := tk + 1) (ch := [e, it]) (fun b ob hb q => (sb.2 b (fun z => hb (by simp [z]))).trans (hk b ob (fun z => hb (by simp [z])) (fun z => hb (by simp [z])) q)) hf (Nat.le_refl _) new
    refine ⟨.ref s.heap.objs.size, _, I1, rfl, ⟨_, x, rfl, I.hok.fresh (Nat.le_refl _), rfl, fun ys hy => by rw [sqx_inj I hy hq]; exact hx⟩, ⟨⟨x1, ?_⟩, hit'.1.at fun o q => (sb.2 it (Ne.symm hne)).trans q, hne⟩, fun b hb => ?_⟩
    · have e1 : ((i + 1 : Nat) : Int) = (i : Int) + 1 := by omega
      rw [e1]; exact he'
    · have hb' : b < s.heap.objs.size := by
        have e' : b = e ∨ b = it := by simpa using hb
        rcases e' with z | z
        · rw [z]; exact hel
        · rw [z]; exact hil
      rw [upd_ne (Nat.ne_of_lt hb')]
      exact (hf b hb).1
  done := by
    intro X hP hw hK hc i pins s σ H E I hf st hg
    subst hP hw hK
    obtain ⟨⟨old, he⟩, hit, hne⟩ := st
    obtain ⟨xs, hq, hx⟩ := hg
    obtain ⟨its, rv, p, la⟩ := sqx_of I hq
    have hl := rv.length
    have hh : X.A.in1.handled = none := I.ok.hd hc
    have hn : i = its.toArray.size := by simp; omega
    refine wpAny_pyNext_enum_endD (drawsX hh k it a hai its.toArray) he ⟨hn ▸ hit, p⟩ fun h' eb => ⟨rfl, ?_⟩
    exact I.turnedL (t' := s.toks) (ch := [e, it]) (fun b o hb q => eb b o (fun z => hb (by simp [z])) q) hf
  self := fun A i s Q E st h => let ⟨⟨_, he⟩, _⟩ := st; wpAny_pyIter_enum he h
def iEnumU (K : PySem.W.Frag) (ta : TA) : TI := fun σ H R => ta σ H fun vs H1 => ∃ k a xs, vs = [.ref a] ∧ SqX K H1 k a xs ∧ R (IteX K k a) H1
theorem pi_enumU {X : Cx} {K : PySem.W.Frag} {e : Expr} {te : TE} {p pos tpos : Pos} {elts : List Expr} {kk : Nat} (hK : X.K = K) (hg : Gl X "enumerate") (hm : X.mg "enumerate" = none) (h1 : PE X e te) (hs : starEach [e] X.env = [(false, eval e X.env)] := by rfl) :
    PI X (.Tuple elts kk tpos) (.Call (.Name "enumerate" p) [e] [] pos) (iEnumU K (tCons te tNil)) := by
  subst hK
  have ha : PA X [e] (tCons te tNil) := pa_cons h1 pa_nil hs
  refine ⟨fun pins s σ H R I h => ?_⟩
  refine Call_ (ld_blt I hg hm boot_enumerate (PyProof.Rows.callWith_type1 (thn (ha.run pos pins s σ H _ I h) fun us s1 ⟨vs, H1, I1, r1, q1⟩ => ?_) hs rfl))
  obtain ⟨k, a, xs, ex, hq, q⟩ := q1
  subst ex
  cases r1 with
  | cons r rr =>
    cases rr
    cases r
    obtain ⟨its, rv, p', la⟩ := sqx_of I1 hq
    obtain ⟨o1, b1, it1⟩ := beginsX k a its.toArray
    refine enum_begins1 b1 p' fun h' he g1 hsz hk => wpAny_pyIter_enum he ?_
    have I2 : Inv X pins σ H1 { s1 with heap := h' } := I1.kept (t' := s1.toks) hk
    refine ⟨s1.heap.objs.size + 1, [s1.heap.objs.size + 1, s1.heap.objs.size], _, _, H1, rfl, I2, turn_enumX a (s1.heap.objs.size + 1) s1.heap.objs.size (Nat.ne_of_lt la) (Nat.ne_of_lt (Nat.lt_succ_of_lt la)), ⟨⟨.none, he⟩, it1 _ _ g1, Nat.succ_ne_self _⟩, fun b hb => ?_, q⟩
    have e' : b = s1.heap.objs.size + 1 ∨ b = s1.heap.objs.size := by simpa using hb
    have hle : s1.heap.objs.size ≤ b := by
      rcases e' with z | z
      · rw [z]; exact Nat.le_add_right _ _
      · rw [z]; exact Nat.le_refl _
    exact I1.fpOk hle (I1.hok.fresh hle)
def enumL (n : Nat) : List U → List U
  | [] => []
  | x :: xs => .tup [.int n, x] :: enumL (n + 1) xs
theorem enumL_length : ∀ (xs : List U) (n : Nat), (enumL n xs).length = xs.length
  | [], _ => rfl
  | x :: xs, n => by simp [enumL, enumL_length xs]
theorem enumL_get : ∀ {xs : List U} {n i : Nat} {x : U}, xs[i]? = some x → (enumL n xs)[i]? = some (.tup [.int ((n + i : Nat) : Int), x])
  | [], n, i, x, h => by simp at h
  | a :: xs, n, 0, x, h => by simp at h; subst h; rfl
  | a :: xs, n, i + 1, x, h => by
    have := enumL_get (xs := xs) (n := n + 1) (i := i) (x := x) (by simpa using h)
    show (enumL (n + 1) xs)[i]? = _
    rw [this]
    congr 4
    omega
def enumO (a : Option U) : Option (List U) := a.bind fun x => x.items.map fun xs => enumL 0 xs
theorem ei_enum {σ : L2.St} {B H : Hp} {ta : TE} {oa : Option U} {K : PySem.W.Frag} (ha : EvO ta σ B H oa) : EvI (iEnumU K (tCons ta tNil)) σ B H (enumO oa) := fun zs e B1 H1 g R q => by
  obtain ⟨x, ex, e⟩ := bind_some e
  obtain ⟨xs, exs, e⟩ := map_some e
  subst e
  refine ha x ex B1 H1 g _ fun v B2 H2 g2 r2 => ?_
  obtain ⟨k, a, vs, rfl, ra, sa⟩ := sqx_items (K := K) exs r2
  refine ⟨k, a, vs, rfl, sa H2 g2.bh, q _ B2 H2 g2 ?_⟩
  have l1 := ra.length
  have hl := enumL_length xs 0
  refine ⟨fun i H' hi s => ?_, fun H' s => ?_, fun i H' v H'' B' hi s1 s2 y => ?_⟩
  · have h1 : i < vs.length := by omega
    exact ⟨vs, vs[i], sa H' s, by simp [h1]⟩
  · rw [hl]
    exact ⟨vs, sa H' s, by omega⟩
  · obtain ⟨T, x1, e1, e2, e3, f1⟩ := y
    subst e1 e3
    obtain ⟨u1, eu1, ru1⟩ := ra.back (f1 vs (sa H' (s1.trans s2)))
    have := enumL_get (n := 0) eu1
    rw [Nat.zero_add] at this
    exact ⟨_, _, Go.new s2 e2, this, .tup upd_same ((Rps.cons (.int _) (.cons (ru1.kp (Kp.of s1)) .nil)).new s2 e2)⟩
end Dn
set_option Elab.async false
set_option linter.all false
set_option maxRecDepth 100000
set_option maxHeartbeats 2000000
namespace Dn
open PySem PySem.Spec PyProof.Rows L2
variable [CTab]
/-! ### calls by name -/
theorem kb1r {K : PySem.W.Frag} {x qual : Str} {st : Stmt} {f : Addr} {fd : FuncData} {p1 : Str} (F : Fun K x qual st f fd)
    (h : ∀ (kV doc pm : Value) (an : Option Addr) (cdv ct u : Value), bindArgs (PySem.W.fnOf x qual (defArgs st) (defBody st) (defScope st) .none kV doc pm an cdv ct) ⟨[], [(p1, u)]⟩ = pure [(p1, u)]) :
    KBn K fd [p1] 0 [p1] (fun _ ws => ws.reverse) (fun _ zs => zs.reverse) := by
  obtain ⟨oc, od, kV, doc, pm, an, cdv, ct, osl, rfl, lk, hcd⟩ := F.ex
  refine ⟨fun s us ws X l1 l2 => ?_, fun r1 r2 => Vals.reverse r2⟩
  match us, ws, l1, l2 with
  | [], [u], _, _ => exact BindsTo.of_eq (h kV doc pm an cdv ct u)
theorem kb3r {K : PySem.W.Frag} {x qual : Str} {st : Stmt} {f : Addr} {fd : FuncData} {p1 p2 p3 : Str} (F : Fun K x qual st f fd)
    (h : ∀ (kV doc pm : Value) (an : Option Addr) (cdv ct u v w : Value), bindArgs (PySem.W.fnOf x qual (defArgs st) (defBody st) (defScope st) .none kV doc pm an cdv ct) ⟨[], [(p3, u), (p2, v), (p1, w)]⟩ = pure [(p1, w), (p2, v), (p3, u)]) :
    KBn K fd [p1, p2, p3] 0 [p3, p2, p1] (fun _ ws => ws.reverse) (fun _ zs => zs.reverse) := by
  obtain ⟨oc, od, kV, doc, pm, an, cdv, ct, osl, rfl, lk, hcd⟩ := F.ex
  refine ⟨fun s us ws X l1 l2 => ?_, fun r1 r2 => Vals.reverse r2⟩
  match us, ws, l1, l2 with
  | [], [u, v, w], _, _ => exact BindsTo.of_eq (h kV doc pm an cdv ct u v w)
/-! ### xs.index(y), any data -/
def rLIdx (K : PySem.W.Frag) : V → List V → Hp → VK → Prop := fun x ws H Q => ∃ (xs : List U) (y : U) (v : V) (a : Addr) (vs : List V), ws = [v] ∧ x = .ref a ∧ SqL K H a vs ∧ Rps H xs vs ∧ Rp H y v ∧ inO dep y xs = some true ∧ Q (.int (xs.findIdx (hitU y) : Nat)) H
section
variable {X : Cx}
theorem mt_lidx (hu : X.A.units + 64 < cLine) : MtR X "list.index" (rLIdx X.K) := by
  intro pins s σ H x ws v us Q I rx rxs h
  obtain ⟨xs, y, w, a, vs, rfl, rfl, hT, r, hy, hb, q⟩ := h
  cases rx
  obtain ⟨u, rfl, ru⟩ := rxs.one
  obtain ⟨its, rv, ⟨⟨cls, dd, data, sl⟩, n, ho, hc, hdn, hd⟩, hlen0⟩ := I.list hT
  simp only at hc hd
  subst hc hd
  obtain ⟨i1, i2⟩ := inO_any r rv hb
  have hlen := rps_len r rv
  obtain ⟨z, hz, ez⟩ := inO_true hb
  have hj : xs.findIdx (hitU y) < xs.length := List.findIdx_lt_length_of_exists ⟨z, hz, by simp [hitU, ez]⟩
  have hj2 : xs.findIdx (hitU y) < its.toArray.size := by rw [List.size_toArray, hlen]; exact hj
  have at_ : ∀ (m : Nat) (hm : m < its.toArray.size), ∃ c, eqO dep (xs[m]'(by rw [← hlen]; simpa using hm)) y = some c ∧ eqOf H dep y its.toArray[m] = c := fun m hm => by
    have hm2 : m < its.length := by simpa using hm
    obtain ⟨u1, v1, e1, r1, r2⟩ := rps_at r rv m its[m] (List.getElem?_eq_getElem hm2)
    have hm3 : m < xs.length := by omega
    have e2 : xs[m] = u1 := by rw [List.getElem?_eq_getElem hm3] at e1; exact Option.some.inj e1
    obtain ⟨c, ec⟩ := inO_def hb u1 (e2 ▸ List.getElem_mem hm3)
    refine ⟨c, by rw [e2]; exact ec, ?_⟩
    show eqOf H dep y its[m] = c
    exact eqOf_is r1 r2 ec
  have hsl := sizeLine_eq
  have hvl := rv.length
  refine call_meets PySem.F.slot_list_index ⟨_, ho, rfl⟩ PySem.F.entry_list_index (PySem.F.args_list_index_2 _ _) (SeqAt.list_indexAt a its.toArray n dd sl u (eqOf H dep y) (xs.findIdx (hitU y)) hj2 (by omega) ?_ ?_)
    ⟨ho, fun p hp => ?_, ⟨.int (xs.findIdx (hitU y) : Nat), H, I.tok _, ⟨_, rfl⟩, q⟩⟩
  · obtain ⟨c, e1, e2⟩ := at_ _ hj2
    have : hitU y xs[xs.findIdx (hitU y)] = true := List.findIdx_getElem
    rw [hitU, e1] at this
    rw [e2]
    simpa using this
  · intro m hm hmj
    obtain ⟨c, e1, e2⟩ := at_ m hm
    have : hitU y (xs[m]'(by omega)) = false := List.not_of_lt_findIdx hmj
    rw [hitU, e1] at this
    rw [e2]
    simpa using this
  · obtain ⟨u1, v1, c, r1, rv1, e1, e2⟩ := i2 p (by simpa using hp)
    rw [e2]
    refine eq_at e1 r1 hy rv1 ru (eq_rc I dep e1 r1 hy rv1 ru ?_).1
    show X.A.units + 1 + dep < cLine
    unfold dep; omega
theorem pe_lidx {K : PySem.W.Frag} {o e : Expr} {es : List Expr} {apos cpos : Pos} {to : TE} {t : TA} (hK : X.K = K) (hu : X.A.units + 64 < cLine) (ho : PE X o to) (ha : PA X (e :: es) t) (hbase : attributeBase o "index" X.env (eval o X.env) = eval o X.env := by rfl)
    (hfew : ((backTo cpos (starEach (e :: es) X.env)).all (fun x => !x.1) && (backToKw cpos (keywordEach [] X.env)).all (fun x => x.1.isSome)
      && decide ((e :: es).length + ([] : List Keyword).length + (if ([] : List Keyword).isEmpty then 0 else 1) < 30)) = true := by rfl)
    (hline : (apos.endLine == cpos.line) = true := by rfl) (hs : starEach (e :: es) X.env = (false, eval e X.env) :: starEach es X.env := by rfl) (hplain : (backTo cpos (starEach es X.env)).any (·.1) = false := by rfl) :
    PE X (.Call (.Attribute o "index" apos) (e :: es) [] cpos) (tBM K "list" (rLIdx K) to t) := hK ▸ pe_bm PySem.F.plainAttrs_list PySem.F.slot_list_index PySem.F.type_list_index (mt_lidx hu) ho ha hbase hfew hline hs hplain
end
def lidxV : U → U → Option U
  | .lst xs, y => (inO dep y xs).bind fun b => if b = true then some (.int (xs.findIdx (hitU y) : Nat)) else none
  | .frl xs, y => (inO dep y xs).bind fun b => if b = true then some (.int (xs.findIdx (hitU y) : Nat)) else none
  | _, _ => none
theorem eo_lidx {K : PySem.W.Frag} {σ : L2.St} {B H : Hp} {ta tb : TE} {oa ob : Option U} (ha : EvO ta σ B H oa) (hb : EvO tb σ B H ob) : EvO (tBM K "list" (rLIdx K) ta (tCons tb tNil)) σ B H (op2 lidxV oa ob) := fun z e B1 H1 g Q q => by
  obtain ⟨x, ex, e⟩ := bind_some e
  obtain ⟨y, ey, e⟩ := bind_some e
  refine ha x ex B1 H1 g _ fun v B2 H2 g2 r2 => ?_
  cases r2 with
  | @lst a xs vs h r =>
    obtain ⟨b, eb, e⟩ := bind_some (show (inO dep y xs).bind _ = some z from e)
    split at e
    · rename_i hb'
      subst hb'
      cases e
      refine ⟨.inl ⟨rfl, _, SqL.of (g2.bh _ _ h)⟩, hb _ ey B2 H2 (g.trans g2) _ fun w B3 H3 g3 r3 => ?_⟩
      exact ⟨xs, y, w, a, vs, rfl, rfl, SqL.of (g3.bh _ _ (g3.b _ _ h)), (r.up g3).in g3.bh, r3.in g3.bh, eb, q _ B3 H3 (g2.trans g3) (.int _)⟩
    · cases e
  | @frl a xs vs o h r =>
    obtain ⟨b, eb, e⟩ := bind_some (show (inO dep y xs).bind _ = some z from e)
    split at e
    · rename_i hb'
      subst hb'
      cases e
      refine ⟨.inl ⟨rfl, _, .inl (.inr ⟨o, g2.bh _ _ h⟩)⟩, hb _ ey B2 H2 (g.trans g2) _ fun w B3 H3 g3 r3 => ?_⟩
      exact ⟨xs, y, w, a, vs, rfl, rfl, .inl (.inr ⟨o, g3.bh _ _ (g3.b _ _ h)⟩), (r.up g3).in g3.bh, r3.in g3.bh, eb, q _ B3 H3 (g2.trans g3) (.int _)⟩
    · cases e
  | _ => cases e
/-! ### min of a list -/
def rMinA (K : PySem.W.Frag) : List V → Hp → VK → Prop := fun xs H Q => rMin K xs H Q ∨ ∃ i j, xs = [V.int i, .int j] ∧ Q (.int (if j < i then j else i)) H
theorem call_minK {X : Cx} {K : PySem.W.Frag} (hK : X.K = K) (hc : X.calm = true) : CallR X (.builtin "min") (rMinA K) := hK ▸ CallR.or (cr_min hc) (call_min2 hc)
def minL : List Int → Option Int
  | [] => none
  | n :: r => some (r.foldl min n)
def minA : List U → Option U
  | [.lst xs] => ((intsU xs).bind minL).map U.int
  | xs => minU xs
theorem minL_mem : ∀ {ns : List Int} {m : Int}, minL ns = some m → m ∈ ns ∧ ∀ y ∈ ns, m ≤ y := by
  have key : ∀ (r : List Int) (n : Int), (r.foldl min n = n ∨ r.foldl min n ∈ r) ∧ r.foldl min n ≤ n ∧ ∀ y ∈ r, r.foldl min n ≤ y := by
    intro r
    induction r with
    | nil => intro n; exact ⟨.inl rfl, Int.le_refl _, fun y h => by cases h⟩
    | cons a r ih =>
      intro n
      obtain ⟨h1, h2, h3⟩ := ih (min n a)
      rw [List.foldl_cons]
      refine ⟨?_, by omega, fun y hy => ?_⟩
      · rcases h1 with h1 | h1
        · rcases Int.le_total n a with q | q
          · rw [h1, Int.min_eq_left q]; exact .inl rfl
          · rw [h1, Int.min_eq_right q]; exact .inr (List.mem_cons_self ..)
        · exact .inr (List.mem_cons_of_mem _ h1)
      · rcases List.mem_cons.mp hy with rfl | hy
        · omega
        · exact h3 y hy
  intro ns m h
  cases ns with
  | nil => cases h
  | cons n r =>
    cases h
    obtain ⟨h1, h2, h3⟩ := key r n
    refine ⟨?_, fun y hy => ?_⟩
    · rcases h1 with h1 | h1
      · rw [h1]; exact List.mem_cons_self ..
      · exact List.mem_cons_of_mem _ h1
    · rcases List.mem_cons.mp hy with rfl | hy
      · exact h2
      · exact h3 y hy
theorem rc_minA {K : PySem.W.Frag} : RC (rMinA K) minA := fun xs z e vs B H s rs Q q => by
  unfold minA at e
  split at e
  · rename_i l
    obtain ⟨m, em, e⟩ := map_some e
    subst e
    obtain ⟨ns, en, em⟩ := bind_some em
    obtain ⟨h1, h2⟩ := minL_mem em
    cases rs with
    | cons r1 t =>
      cases t
      cases r1 with
      | @lst a _ ws h r =>
        refine .inl ⟨a, ns, rfl, by rw [← r.intsOf en]; exact SqL.of (s _ _ h), List.length_pos_of_mem h1, fun m' h3 h4 => ?_⟩
        have : m' = m := Int.le_antisymm (h4 _ h1) (h2 _ h3)
        subst this
        exact q _ B H (Go.refl s) (.int _)
  · exact .inr (rc_min _ _ e _ _ _ s rs Q q)
/-! ### sorted of ints, texts, tuples of these -/
def encU (u : U) : PyData := (U.py u).getD .none
def tupNE : PyData → Bool
  | .tuple (_ :: _) => true
  | _ => false
def flatD : PyData → Bool
  | .none => false
  | .tuple _ => false
  | _ => true
def sortable (ds : List PyData) : Bool := (ds.all fun d => ds.all fun d' => PySem.W.alike d d') && ((ds.all tupNE) || (ds.all flatD)) && ds.all fun d => decide (d.depth ≤ 20)
def sortL (xs : List U) : List U := xs.mergeSort (PySem.W.dataLe false encU)
def sortedV : U → Option U
  | .lst xs => (U.pys xs).bind fun ds => if sortable ds = true then some (.lst (sortL xs)) else none
  | _ => none
theorem pys_map : ∀ {xs : List U} {ds : List PyData}, U.pys xs = some ds → ds = xs.map encU ∧ ∀ x ∈ xs, U.py x = some (encU x)
  | [], ds, h => by simp [U.pys] at h; subst h; exact ⟨rfl, fun x hx => nomatch hx⟩
  | x :: xs, ds, h => by
    obtain ⟨d, e1, h⟩ := bind_some (show (U.py x).bind (fun d => (U.pys xs).map fun r => d :: r) = some ds by simpa [U.pys] using h)
    obtain ⟨r, e2, h⟩ := map_some h
    subst h
    obtain ⟨i1, i2⟩ := pys_map e2
    have ed : encU x = d := by simp [encU, e1]
    refine ⟨by rw [List.map_cons, ed, ← i1], fun y hy => ?_⟩
    rcases List.mem_cons.mp hy with rfl | hy
    · rw [ed]; exact e1
    · exact i2 y hy
theorem rps_zip {B : Hp} : ∀ {xs : List U} {ws : List V}, Rps B xs ws → ∀ p ∈ xs.zip ws, Rp B p.1 p.2
  | _, _, .nil, p, hp => by simp at hp
  | _, _, .cons r t, p, hp => by
    rw [List.zip_cons_cons] at hp
    rcases List.mem_cons.mp hp with rfl | hp
    · exact r
    · exact rps_zip t p hp
theorem zip_rps {B : Hp} : ∀ {xs : List U} {ws : List V}, ws.length = xs.length → (∀ p ∈ xs.zip ws, Rp B p.1 p.2) → Rps B xs ws
  | [], [], _, _ => .nil
  | [], _ :: _, h, _ => by simp at h
  | _ :: _, [], h, _ => by simp at h
  | x :: xs, w :: ws, h, hp => .cons (hp (x, w) (by simp)) (zip_rps (by simpa using h) fun p hh => hp p (by rw [List.zip_cons_cons]; exact List.mem_cons_of_mem _ hh))
def rSortD (K : PySem.W.Frag) : List V → Hp → VK → Prop := fun vs H Q => ∃ (a : Addr) (xs : List U) (ws : List V), vs = [V.ref a] ∧ SqL K H a ws ∧ Rps H xs ws ∧ (∀ x ∈ xs, U.py x = some (encU x)) ∧ sortable (xs.map encU) = true ∧
  ∀ (us : List V) (p : Addr), us.length = (sortL xs).length → (∀ q ∈ (sortL xs).zip us, q ∈ xs.zip ws) → H p = none → Q (.ref p) (upd H p (.lst us))
theorem each_of {H : Hp} {Z : List (U × V)} : ∀ {xs : List U} {ws : List V} {its : List Value}, Rps H xs ws → Vals ws its → (∀ q ∈ xs.zip ws, q ∈ Z) → PySem.W.EachIs (fun (v : Value) (x : U) => ∃ w, (x, w) ∈ Z ∧ RelV w v) its xs
  | _, _, _, .nil, .nil, _ => .nil
  | _, _, _, .cons r t, .cons rv tv, h => .cons ⟨_, h _ (by simp), rv⟩ (each_of t tv fun q hq => h q (by rw [List.zip_cons_cons]; exact List.mem_cons_of_mem _ hq))
theorem of_each {Z : List (U × V)} : ∀ {xs : List U} {its : List Value}, PySem.W.EachIs (fun (v : Value) (x : U) => ∃ w, (x, w) ∈ Z ∧ RelV w v) its xs → ∃ ws : List V, ws.length = xs.length ∧ (∀ q ∈ xs.zip ws, q ∈ Z) ∧ Vals ws its
  | _, _, .nil => ⟨[], rfl, fun q hq => by simp at hq, .nil⟩
  | _, _, .cons ⟨w, r, rv⟩ t => by
    obtain ⟨ws, h0, h1, h2⟩ := of_each t
    refine ⟨w :: ws, by simp [h0], fun q hq => ?_, .cons rv h2⟩
    rw [List.zip_cons_cons] at hq
    rcases List.mem_cons.mp hq with rfl | hq
    · exact r
    · exact h1 q hq
theorem cr_sortD {X : Cx} {K : PySem.W.Frag} (hK : X.K = K) (hu : X.A.units + 64 < cLine) : CallR X (.builtin "sorted") (rSortD K) := by
  subst hK
  intro pins s σ H vs us Q I r h
  obtain ⟨a, xs, ws, rfl, hs, rx, hpy, hso, q⟩ := h
  obtain ⟨its, rv, hl, hz⟩ := I.list hs
  rw [Vals.ref1 r]
  have hE := each_of (Z := xs.zip ws) rx rv fun q hq => hq
  simp only [sortable, Bool.and_eq_true, Bool.or_eq_true, List.all_eq_true, decide_eq_true_eq] at hso
  obtain ⟨⟨h1, h2⟩, h3⟩ := hso
  have hlen := rps_len rx rv
  have hvl := rv.length
  have her : ∀ {xs' : List U} {its : List Value}, PySem.W.EachIs (fun (v : Value) (x : U) => ∃ w, (x, w) ∈ xs.zip ws ∧ RelV w v) its xs' → (∀ x ∈ xs', U.py x = some (encU x)) → PySem.W.EachIs (fun v b => ∃ as, Reads s.heap v (encU b) as) its xs' := by
    intro xs' its h
    induction h with
    | nil => intro _; exact .nil
    | cons hh t ih =>
      intro hp
      obtain ⟨w, r1, r2⟩ := hh
      exact .cons (Dp.reads I _ _ _ ((rps_zip rx _ r1).dp (hp _ (List.mem_cons_self ..))) r2) (ih fun x hx => hp x (List.mem_cons_of_mem _ hx))
  refine PySem.W.sorted_data (enc := encU) hl.isList hE (her hE hpy) (fun d hd d' hd' => h1 d hd d' hd') ?_ (by omega) (fun b hb => ?_) fun out ho eo => ?_
  · rcases h2 with h2 | h2
    · refine .inl fun d hd => ?_
      have := h2 d hd
      unfold tupNE at this
      split at this
      · exact ⟨_, _, rfl⟩
      · cases this
    · refine .inr fun d hd => ?_
      have := h2 d hd
      unfold flatD at this
      split at this
      · cases this
      · cases this
      · rename_i n1 n2
        exact ⟨n1, n2⟩
  · have := h3 _ (List.mem_map.mpr ⟨b, hb, rfl⟩)
    omega
  · obtain ⟨ys, k0, k1, k2⟩ := of_each eo
    obtain ⟨ep, he'⟩ := PyProof.Rows.sortedAll_at s.heap its out.toArray
    have hy : ys.length ≤ sizeLine := by
      have := k2.length
      omega
    exact ⟨.ref _, upd H (s.heap.objs.size + 1) (.lst ys), I.laid (t' := s.toks) (fun _ _ => PyProof.Rows.sortedAll_old) (Nat.le_succ _) ⟨hy, out, ep, k2, he'⟩, rfl, q _ _ k0 k1 (I.hok.fresh (Nat.le_succ _))⟩
theorem rc_sortD {K : PySem.W.Frag} : RC (rSortD K) (c1 sortedV) := rc_one c1_one fun x z e v B H s rx Q q => by
  cases rx with
  | @lst a xs vs h r =>
    obtain ⟨ds, ed, e⟩ := bind_some (show (U.pys xs).bind _ = some z from e)
    split at e
    · rename_i hs
      cases e
      obtain ⟨e1, e2⟩ := pys_map ed
      subst e1
      refine ⟨a, xs, vs, rfl, SqL.of (s _ _ h), r.in s, e2, hs, fun us p hl hz hp => ?_⟩
      have rs : Rps B (sortL xs) us := zip_rps hl fun q hq => rps_zip r q (hz q hq)
      exact q _ _ _ (Go.new s hp) (.lst upd_same (rs.new s hp))
    · cases e
  | _ => cases e
end Dn
set_option Elab.async false
set_option linter.all false
set_option maxRecDepth 100000
set_option maxHeartbeats 4000000
namespace Dn
open PySem PySem.Spec PyProof.Rows L2
open AutoSeq1 (wpAny_loadPart')
/-! ### len(set(texts)), any number of texts -/
def hasT (ts : List Str) (i : Nat) (z : Str) : Bool := (ts.take i).any (· == z)
def dnT (ts : List Str) : Nat → Nat
  | 0 => 0
  | i + 1 => if hasT ts i (ts.getD i Str.empty) = true then dnT ts i else dnT ts i + 1
theorem dnT_le (ts : List Str) : ∀ i, dnT ts i ≤ i
  | 0 => Nat.le_refl _
  | i + 1 => by
    have := dnT_le ts i
    unfold dnT
    split <;> omega
theorem hasT_succ {ts : List Str} {i : Nat} (h : i < ts.length) (z : Str) : (hasT ts i z || decide (z = ts.getD i Str.empty)) = hasT ts (i + 1) z := by
  have e : ts.take (i + 1) = ts.take i ++ [ts.getD i Str.empty] := by
    rw [List.take_add_one]
    congr 1
    rw [List.getElem?_eq_getElem h]
    simp [List.getD, h]
  show (hasT ts i z || _) = (ts.take (i + 1)).any (· == z)
  rw [e, List.any_append]
  show _ = (hasT ts i z || [ts.getD i Str.empty].any (· == z))
  congr 1
  rw [Bool.eq_iff_iff]
  simp only [decide_eq_true_eq, List.any_cons, List.any_nil, Bool.or_false, beq_iff_eq]
  exact ⟨Eq.symm, Eq.symm⟩
section
variable {pg : Program} {wd : World} {Ar : Around} {RR : Result → Shared → Prop} {it : Addr} {f1 f2 : List Addr} {Gn : Array GenState → Array GenState → Prop} {m : Nat} {PP : Nat → Value → Prop} {SS' : Nat → Shared → Prop}
theorem setOf_moved {a : Addr} {S : Str → Bool} {n : Nat} {s s' : Shared} {L : List Addr} (h : s.heap.SetOf (PySem.strKind pg wd) a S n) (hm : Moved L Gn s s') (ha : a ∉ L) : s'.heap.SetOf (PySem.strKind pg wd) a S n := by
  obtain ⟨ob, es, ep, tb, h1, h2⟩ := h
  exact ⟨ob, es, ep, tb, hm.heap a _ ha h1, h2⟩
theorem set_turns (W : WalksS pg wd Ar.in1 it f1 f2 Gn m PP SS') (a : Addr) (haf : a ∉ f1) (ts : List Str) (hm : ts.length = m) (hb : m < 4000) (hv : ∀ i v, PP i v → ∃ t, v = .str (ts.getD i Str.empty) t) :
    ∀ (k i : Nat) (s : Shared), m = i + k → SS' i s → s.heap.SetOf (PySem.strKind pg wd) a (hasT ts i) (dnT ts i) →
      (∀ s', Moved (a :: f2) Gn s s' → s'.heap.SetOf (PySem.strKind pg wd) a (hasT ts m) (dnT ts m) → RR (.ok (.ret .none)) s') →
      codeAny (model pg wd) Ar (.builtin "set.update.loop" ⟨[.ref a, .ref it], []⟩) RR s := by
  have ha2 : a ∉ f2 := fun z => haf (W.sub _ z)
  have sub : ∀ b ∈ f2, b ∈ a :: f2 := fun b z => List.mem_cons_of_mem _ z
  intro k
  induction k with
  | zero =>
    intro i s e st hS hR
    have e : m = i := e
    subst e
    refine codeAny_builtin PyProof.Rows.F.entry_set_update_loop ?_
    rw [Around.under_plainId PyProof.Rows.F.plain_set_update_loop _]
    change wpAny _ Ar.in1 (pyNext (.ref it) >>= _) _ _ s
    refine wpAny_bind (W.done s _ _ st fun s' mv => ?_)
    change wpAny _ Ar.in1 (ret Value.none) _ _ s'
    exact wpAny_pure (hR s' (mv.mono sub) (setOf_moved hS mv ha2))
  | succ k ih =>
    intro i s e st hS hR
    have hi : i < m := by omega
    refine codeAny_builtin PyProof.Rows.F.entry_set_update_loop ?_
    rw [Around.under_plainId PyProof.Rows.F.plain_set_update_loop _]
    change wpAny _ Ar.in1 (pyNext (.ref it) >>= _) _ _ s
    refine wpAny_bind (W.item i s _ _ hi st fun v s1 hp st1 mv => ?_)
    obtain ⟨tk, rfl⟩ := hv i v hp
    have hS1 := setOf_moved hS mv ha2
    change wpAny _ Ar.in1 (holding [Value.str (ts.getD i Str.empty) tk] (setAdd a (.str (ts.getD i Str.empty) tk)) >>= _) _ _ s1
    refine wpAny_bind (wpAny_holding ?_)
    unfold setAdd
    refine wpAny_holding (wpAny_bind ((PySem.strKind pg wd).pyHash (k := ts.getD i Str.empty) (strKind_is _ _ _ _) ?_))
    have hd := dnT_le ts i
    refine wpAny_setAddHashed_of (knd := PySem.strKind pg wd) (s := { s1 with toks := s1.toks + 1 }) (strKind_is _ _ _ _) rfl hS1 (show dnT ts i + 1 < 4096 by omega) fun h2 sb hS2 => ?_
    have hS3 : h2.SetOf (PySem.strKind pg wd) a (hasT ts (i + 1)) (dnT ts (i + 1)) := SetOf_congr hS2 (fun z => hasT_succ (by omega) z) rfl
    refine wpAny_pure ⟨plainId_quiet PyProof.Rows.F.plain_set_update_loop _, ih (i + 1) _ (by omega) (W.frame _ s1 _ _ st1 (Nat.le_succ _) fun b hb o e => ?_) hS3 fun s3 mv3 hS4 => ?_⟩
    · rw [sb.2 b (fun z : b = a => haf (z ▸ hb))]; exact e
    · refine hR s3 (Moved.trans W.gtrans ((mv.mono sub).then_heap (Nat.le_succ _) fun b o hb e => ?_) mv3) hS4
      rw [sb.2 b (fun z : b = a => hb (z ▸ List.mem_cons_self))]; exact e
end
abbrev sob (b : Bool) : Obj := { cls := .type "set", dict := none, data := .set #[] 0 (.fresh 0 0 b) }
section
variable {pg : Program} {wd : World} {Ar : Around} {EE : Value → Shared → Prop} {s0 : Shared}
theorem set_of_list {p : Addr} {its : Array Value} {ts : List Str} {QQ : Value → Shared → Prop} (nh : Ar.handled = none) (pl : s0.heap.IsList p its) (sa : StrsAre its.toList ts) (hb : ts.length < 4000)
    (go : ∀ (h2 : Heap) (n2 : Nat), h2.SetOf (PySem.strKind pg wd) s0.heap.objs.size (hasT ts ts.length) (dnT ts ts.length) → (∀ b o, b < s0.heap.objs.size → s0.heap.get? b = some o → h2.get? b = some o) → QQ (.ref s0.heap.objs.size) { s0 with heap := h2, toks := n2 }) :
    wpAny (model pg wd) Ar (call (.type "set") [.ref p]) QQ EE s0 := by
  obtain ⟨cc, tt, mro⟩ := PySem.F.called_set.mro
  have f1 := PySem.F.called_set.made
  have f2 := PySem.F.called_set.sub
  have f3 := PySem.F.called_set.notType
  have f4 := PySem.F.called_set.canCreate
  have f5 := PySem.F.typeCall_set_1 (.ref p)
  refine wpAny_call (codeAny_of_tree ?_)
  change wpAny _ _ (callAny (.type "set") _) _ _ _
  refine wpAny_pure ⟨Code.quiet_builtin _ (by decide +kernel), codeAny_builtin PySem.F.entry_type_call ?_⟩
  rw [Around.under_plain (weight_type_call_type "set" [.ref p] []) rfl]
  repeat (any_goals (first | assumption | wp_step))
  refine codeAny_mono (code_set_new_1 (.ref p) (E := EE) (Q₁ := fun x y => ∃ b : Bool, x = .ref s0.heap.objs.size ∧ y = { s0 with heap := s0.heap.push (sob b) }) fun b => ⟨b, rfl, rfl⟩) fun r1 s1 h1 => ?_
  cases r1 with
  | error _ => exact h1
  | ok w1 =>
    cases w1 with
    | ret _ =>
      obtain ⟨bb, rfl, rfl⟩ := h1
      have g1 : (s0.heap.push (sob bb)).get? s0.heap.objs.size = some (sob bb) := Heap.get?_push_size _ rfl
      have g2 : Shared.TypeIs { s0 with heap := s0.heap.push (sob bb) } (.ref s0.heap.objs.size) "set" := ⟨_, g1, rfl⟩
      have g3 := PySem.F.called_set.init.lookup
      have g4 := PySem.F.called_set.init.bind (.ref s0.heap.objs.size)
      repeat (any_goals (first | assumption | wp_step))
      refine codeAny_mono (codeAny_call_builtin (R := wants (fun r2 s2 => r2 = .none ∧ ∃ h2 n2, s2 = { s0 with heap := h2, toks := n2 } ∧ h2.SetOf (PySem.strKind pg wd) s0.heap.objs.size (hasT ts ts.length) (dnT ts ts.length) ∧ (∀ b o, b < s0.heap.objs.size → s0.heap.get? b = some o → h2.get? b = some o)) EE)
        PySem.F.called_set.init.plain PySem.F.entry_set_init (check_set_init_1 g2 ?_)) fun r2 s2 h2 => ?_
      · have pl1 : (s0.heap.push (sob bb)).IsList p its := pl.push _
        obtain ⟨ob, hob, hcl, nn, hdt⟩ := pl
        obtain ⟨o1, o2, o3, o4⟩ := ob
        simp only at hcl hdt
        subst hcl; subst hdt
        have q0 : (s0.heap.push (sob bb)).get? p = some { cls := .type "list", dict := o2, data := .seq its nn, slots := o4 } := Heap.get?_push_of_some _ hob
        have q1 := PySem.F.sub_list_set
        have q2 := PySem.F.sub_list_frozenset
        have q3 : (Value.type "list" == Value.type "dict") = false := by decide
        unfold Builtin.«set.__init__» noKeywords Builtin.Frozenset.updateFrom
        generalize hgen : pyIter = gen
        wp_walk
        subst hgen
        refine wpAny_pyIter_list pl1 (wpAny_bind (wpAny_runValue ?_))
        have pS : p < s0.heap.objs.size := Heap.lt_size hob
        have sz : (s0.heap.push (sob bb)).objs.size = s0.heap.objs.size + 1 := Heap.size_push ..
        have nh3 : Ar.in1.in1.in1.handled = none := by simp [nh]
        have pI : p ≠ (s0.heap.push (sob bb)).objs.size := by rw [sz]; exact Nat.ne_of_lt (Nat.lt_succ_of_lt pS)
        have nf : s0.heap.objs.size ∉ [(s0.heap.push (sob bb)).objs.size, p] := by
          rw [sz]; simp only [List.mem_cons, List.not_mem_nil, or_false, not_or]; exact ⟨Nat.ne_of_lt (Nat.lt_succ_self _), Nat.ne_of_gt pS⟩
        have len : ts.length = its.size := by rw [← StrsAre.len_eq sa, Array.length_toList]
        refine set_turns ((Walks.list nh3 _ p pI its).toS) s0.heap.objs.size nf ts len (by omega) (fun i v hv => SS.strs_at sa i v (by rw [Array.getElem?_toList]; exact hv)) its.size 0 _ (by omega) ⟨⟨_, Heap.get?_push_size _ rfl, rfl, rfl⟩, pl1.push _⟩ ?_ ?_
        · exact SetOf_congr ((setObjOf_fresh (knd := PySem.strKind pg wd) bb).setOf (Heap.get?_push_of_some _ g1) (by decide)) (fun _ => rfl) rfl
        · intro s3 mv hS3
          obtain ⟨x1, x2, x3, x4, x5⟩ := s3
          obtain rfl : x2 = s0.gens := mv.gens
          obtain rfl : x3 = s0.drawn := mv.drawn
          obtain rfl : x5 = s0.os := mv.os
          rw [← len] at hS3
          refine wpAny_pure ?_
          change wpAny _ _ (ret Value.none) _ _ _
          refine wpAny_pure ⟨rfl, x1, x4, rfl, hS3, fun b o hlt e => ?_⟩
          refine mv.heap b o ?_ (Heap.get?_push_of_some _ (Heap.get?_push_of_some _ e))
          rw [sz]; simp only [List.mem_cons, List.not_mem_nil, or_false, not_or]; exact ⟨Nat.ne_of_lt hlt, Nat.ne_of_lt (Nat.lt_succ_of_lt hlt)⟩
      · cases r2 with
        | error _ => exact h2
        | ok w2 =>
          cases w2 with
          | ret _ =>
            obtain ⟨rfl, h3, n3, rfl, hS3, keep⟩ := h2
            repeat (any_goals (first | assumption | wp_step))
            exact go _ _ hS3 keep
          | _ => exact h2.elim
    | _ => exact h1.elim
theorem set_of_tuple {p : Addr} {its : Array Value} {ts : List Str} {QQ : Value → Shared → Prop} (nh : Ar.handled = none) (pl : s0.heap.IsTuple p its) (sa : StrsAre its.toList ts) (hb : ts.length < 4000)
    (go : ∀ (h2 : Heap) (n2 : Nat), h2.SetOf (PySem.strKind pg wd) s0.heap.objs.size (hasT ts ts.length) (dnT ts ts.length) → (∀ b o, b < s0.heap.objs.size → s0.heap.get? b = some o → h2.get? b = some o) → QQ (.ref s0.heap.objs.size) { s0 with heap := h2, toks := n2 }) :
    wpAny (model pg wd) Ar (call (.type "set") [.ref p]) QQ EE s0 := by
  obtain ⟨cc, tt, mro⟩ := PySem.F.called_set.mro
  have f1 := PySem.F.called_set.made
  have f2 := PySem.F.called_set.sub
  have f3 := PySem.F.called_set.notType
  have f4 := PySem.F.called_set.canCreate
  have f5 := PySem.F.typeCall_set_1 (.ref p)
  refine wpAny_call (codeAny_of_tree ?_)
  change wpAny _ _ (callAny (.type "set") _) _ _ _
  refine wpAny_pure ⟨Code.quiet_builtin _ (by decide +kernel), codeAny_builtin PySem.F.entry_type_call ?_⟩
  rw [Around.under_plain (weight_type_call_type "set" [.ref p] []) rfl]
  repeat (any_goals (first | assumption | wp_step))
  refine codeAny_mono (code_set_new_1 (.ref p) (E := EE) (Q₁ := fun x y => ∃ b : Bool, x = .ref s0.heap.objs.size ∧ y = { s0 with heap := s0.heap.push (sob b) }) fun b => ⟨b, rfl, rfl⟩) fun r1 s1 h1 => ?_
  cases r1 with
  | error _ => exact h1
  | ok w1 =>
    cases w1 with
    | ret _ =>
      obtain ⟨bb, rfl, rfl⟩ := h1
      have g1 : (s0.heap.push (sob bb)).get? s0.heap.objs.size = some (sob bb) := Heap.get?_push_size _ rfl
      have g2 : Shared.TypeIs { s0 with heap := s0.heap.push (sob bb) } (.ref s0.heap.objs.size) "set" := ⟨_, g1, rfl⟩
      have g3 := PySem.F.called_set.init.lookup
      have g4 := PySem.F.called_set.init.bind (.ref s0.heap.objs.size)
      repeat (any_goals (first | assumption | wp_step))
      refine codeAny_mono (codeAny_call_builtin (R := wants (fun r2 s2 => r2 = .none ∧ ∃ h2 n2, s2 = { s0 with heap := h2, toks := n2 } ∧ h2.SetOf (PySem.strKind pg wd) s0.heap.objs.size (hasT ts ts.length) (dnT ts ts.length) ∧ (∀ b o, b < s0.heap.objs.size → s0.heap.get? b = some o → h2.get? b = some o)) EE)
        PySem.F.called_set.init.plain PySem.F.entry_set_init (check_set_init_1 g2 ?_)) fun r2 s2 h2 => ?_
      · have pl1 : (s0.heap.push (sob bb)).IsTuple p its := pl.push _
        obtain ⟨ob, hob, hcl, nn, hdt⟩ := pl
        obtain ⟨o1, o2, o3, o4⟩ := ob
        simp only at hcl hdt
        subst hcl; subst hdt
        have q0 : (s0.heap.push (sob bb)).get? p = some { cls := .type "tuple", dict := o2, data := .seq its nn, slots := o4 } := Heap.get?_push_of_some _ hob
        have q1 := PySem.F.sub_tuple_set
        have q2 := PySem.F.sub_tuple_frozenset
        have q3 : (Value.type "tuple" == Value.type "dict") = false := by decide
        unfold Builtin.«set.__init__» noKeywords Builtin.Frozenset.updateFrom
        generalize hgen : pyIter = gen
        wp_walk
        subst hgen
        refine wpAny_pyIter_tuple pl1 (wpAny_bind (wpAny_runValue ?_))
        have pS : p < s0.heap.objs.size := Heap.lt_size hob
        have sz : (s0.heap.push (sob bb)).objs.size = s0.heap.objs.size + 1 := Heap.size_push ..
        have nh3 : Ar.in1.in1.in1.handled = none := by simp [nh]
        have pI : p ≠ (s0.heap.push (sob bb)).objs.size := by rw [sz]; exact Nat.ne_of_lt (Nat.lt_succ_of_lt pS)
        have nf : s0.heap.objs.size ∉ [(s0.heap.push (sob bb)).objs.size, p] := by
          rw [sz]; simp only [List.mem_cons, List.not_mem_nil, or_false, not_or]; exact ⟨Nat.ne_of_lt (Nat.lt_succ_self _), Nat.ne_of_gt pS⟩
        have len : ts.length = its.size := by rw [← StrsAre.len_eq sa, Array.length_toList]
        refine set_turns ((Walks.tuple nh3 _ p pI its).toS) s0.heap.objs.size nf ts len (by omega) (fun i v hv => SS.strs_at sa i v (by rw [Array.getElem?_toList]; exact hv)) its.size 0 _ (by omega) ⟨⟨_, Heap.get?_push_size _ rfl, rfl, rfl⟩, pl1.push _⟩ ?_ ?_
        · exact SetOf_congr ((setObjOf_fresh (knd := PySem.strKind pg wd) bb).setOf (Heap.get?_push_of_some _ g1) (by decide)) (fun _ => rfl) rfl
        · intro s3 mv hS3
          obtain ⟨x1, x2, x3, x4, x5⟩ := s3
          obtain rfl : x2 = s0.gens := mv.gens
          obtain rfl : x3 = s0.drawn := mv.drawn
          obtain rfl : x5 = s0.os := mv.os
          rw [← len] at hS3
          refine wpAny_pure ?_
          change wpAny _ _ (ret Value.none) _ _ _
          refine wpAny_pure ⟨rfl, x1, x4, rfl, hS3, fun b o hlt e => ?_⟩
          refine mv.heap b o ?_ (Heap.get?_push_of_some _ (Heap.get?_push_of_some _ e))
          rw [sz]; simp only [List.mem_cons, List.not_mem_nil, or_false, not_or]; exact ⟨Nat.ne_of_lt hlt, Nat.ne_of_lt (Nat.lt_succ_of_lt hlt)⟩
      · cases r2 with
        | error _ => exact h2
        | ok w2 =>
          cases w2 with
          | ret _ =>
            obtain ⟨rfl, h3, n3, rfl, hS3, keep⟩ := h2
            repeat (any_goals (first | assumption | wp_step))
            exact go _ _ hS3 keep
          | _ => exact h2.elim
    | _ => exact h1.elim
end
end Dn
set_option Elab.async false
set_option linter.all false
set_option maxRecDepth 100000
set_option maxHeartbeats 2000000
namespace Dn
open PySem PySem.Spec PyProof.Rows L2
variable [CTab]
/-! ### len(set(texts)) as an expression -/
def tLenS (K : PySem.W.Frag) (ta : TE) : TE := fun σ H Q => ta σ H fun x H1 => ∃ (l : Addr) (ts : List Str), x = .ref l ∧ (SqL K H1 l (ts.map V.str) ∨ SqT K H1 l (ts.map V.str)) ∧ ts.length < 4000 ∧ Q (.int (dnT ts ts.length : Nat)) H1
theorem pe_lenS {X : Cx} {K : PySem.W.Frag} {a : Expr} {ta : TE} {p1 p2 p3 p4 : Pos} (hK : X.K = K) (calm : X.calm = true) (g1 : Gl X "len") (m1 : X.mg "len" = none) (g2 : Gl X "set") (m2 : X.mg "set" = none) (ha : PE X a ta)
    (na : starEach [a] X.env = (false, eval a X.env) :: starEach [] X.env := by rfl) : PE X (.Call (.Name "len" p1) [.Call (.Name "set" p2) [a] [] p3] [] p4) (tLenS K ta) := by
  subst hK
  refine ⟨fun pins s σ H Q I h => Call_ (ld_blt I g1 m1 boot_len (PyProof.Rows.callWith_builtin1 (PyProof.Rows.args_cons ?_ rfl) rfl rfl))⟩
  refine Call_ (ld_blt I g2 m2 boot_set (PyProof.Rows.callWith_type1 (PyProof.Rows.args_cons (thn (ha.run pins s σ H _ I h) fun v s1 ⟨x, H1, I1, r1, q1⟩ => PyProof.Rows.args_nil ?_) na) na rfl))
  obtain ⟨l, ts, rfl, hq, hb, q1⟩ := q1
  cases r1
  have last : ∀ (h2 : Heap) (n2 : Nat), h2.SetOf (PySem.strKind X.prog X.w) s1.heap.objs.size (hasT ts ts.length) (dnT ts ts.length) → (∀ b o, b < s1.heap.objs.size → s1.heap.get? b = some o → h2.get? b = some o) →
      wpAny (model X.prog X.w) X.A (spliced (backTo p4 (starEach [] X.env))) (fun vs s₂ => wpAny (model X.prog X.w) X.A (call (.builtin "len") (Value.ref s1.heap.objs.size :: vs)) (EP X pins σ Q) X.xe s₂) X.xe { s1 with heap := h2, toks := n2 } := fun h2 n2 hS hk => by
    refine PyProof.Rows.args_nil ?_
    obtain ⟨o, es, ep, t, ho, hex, hd, _, _, _, hf, hn⟩ := hS
    have I2 : Inv X pins σ H1 { s1 with heap := h2, toks := n2 } := I1.kept fun b o e => hk b o (Heap.lt_size e) e
    have := dnT_le ts ts.length
    exact call_len_set ho hex hd hf (by rw [hn]; omega) ⟨.int (dnT ts ts.length : Nat), H1, I2.tok _, ⟨_, by rw [hn]⟩, q1⟩
  rcases hq with hq | hq
  · obtain ⟨its, r, pl, hz⟩ := I1.list hq
    exact set_of_list (I1.ok.hd calm) pl.isList (by simpa using strsAre_of r) hb last
  · obtain ⟨its, r, pl, hz⟩ := I1.tuple hq
    exact set_of_tuple (I1.ok.hd calm) pl (by simpa using strsAre_of r) hb last
def lenSetV : U → Option U
  | .lst xs => (strsU xs).bind fun ts => if ts.length < 4000 then some (.int (dnT ts ts.length : Nat)) else none
  | .frl xs => (strsU xs).bind fun ts => if ts.length < 4000 then some (.int (dnT ts ts.length : Nat)) else none
  | .tup xs => (strsU xs).bind fun ts => if ts.length < 4000 then some (.int (dnT ts ts.length : Nat)) else none
  | _ => none
theorem eo_lenS {K : PySem.W.Frag} {σ : L2.St} {B H : Hp} {ta : TE} {oa : Option U} (ha : EvO ta σ B H oa) : EvO (tLenS K ta) σ B H (op1 lenSetV oa) := fun z e B1 H1 g Q q => by
  obtain ⟨x, ex, e⟩ := bind_some e
  refine ha x ex B1 H1 g _ fun v B2 H2 g2 r2 => ?_
  have fin : ∀ (xs : List U) (vs : List V) (a : Addr), ((strsU xs).bind fun ts => if ts.length < 4000 then some (U.int (dnT ts ts.length : Nat)) else none) = some z → Rps B2 xs vs → (SqL K H2 a vs ∨ SqT K H2 a vs) → ∃ (l : Addr) (ts : List Str), V.ref a = .ref l ∧ (SqL K H2 l (ts.map V.str) ∨ SqT K H2 l (ts.map V.str)) ∧ ts.length < 4000 ∧ Q (.int (dnT ts ts.length : Nat)) H2 := fun xs vs a e r hs => by
    obtain ⟨ts, es, e⟩ := bind_some e
    split at e
    · rename_i hl
      cases e
      have := r.strs es; subst this
      exact ⟨a, ts, rfl, hs, hl, q _ B2 H2 g2 (.int _)⟩
    · cases e
  cases r2 with
  | @lst a xs vs h r => exact fin xs vs a e r (.inl (SqL.of (g2.bh _ _ h)))
  | @frl a xs vs o h r => exact fin xs vs a e r (.inl (.inl (.inr ⟨o, g2.bh _ _ h⟩)))
  | @tup a xs vs h r => exact fin xs vs a e r (.inr (SqT.of (g2.bh _ _ h)))
  | _ => cases e
end Dn
set_option Elab.async false
set_option linter.all false
set_option maxRecDepth 100000
set_option maxHeartbeats 2000000
namespace Dn
open PySem PySem.Spec PyProof.Rows L2
variable [CTab]
/-! ### x.extend(e) of an own list -/
theorem pe_extK {X : Cx} {K : PySem.W.Frag} {o e : Expr} {es : List Expr} {apos cpos : Pos} {to : TE} {t : TA} (hK : X.K = K) (ho : PE X o to) (ha : PA X (e :: es) t) (hbase : attributeBase o "extend" X.env (eval o X.env) = eval o X.env := by rfl)
    (hfew : ((backTo cpos (starEach (e :: es) X.env)).all (fun x => !x.1) && (backToKw cpos (keywordEach [] X.env)).all (fun x => x.1.isSome)
      && decide ((e :: es).length + ([] : List Keyword).length + (if ([] : List Keyword).isEmpty then 0 else 1) < 30)) = true := by rfl)
    (hline : (apos.endLine == cpos.line) = true := by rfl) (hs : starEach (e :: es) X.env = (false, eval e X.env) :: starEach es X.env := by rfl) (hplain : (backTo cpos (starEach es X.env)).any (·.1) = false := by rfl) :
    PE X (.Call (.Attribute o "extend" apos) (e :: es) [] cpos) (tBM K "list" rExtend to t) := hK ▸ pe_bm PySem.F.plainAttrs_list PySem.F.slot_list_extend PySem.F.type_list_extend mt_extend ho ha hbase hfew hline hs hplain
def extS (j : Nat) (y : U) : SM U := fun us => match us[j]?, y with
  | some (.frl xs), .lst ys => if xs.length + ys.length ≤ lim then some (.non, us.set j (.frl (xs ++ ys))) else none
  | _, _ => none
section
variable {M : Addr → Prop} {ps : List Addr} {σ : L2.St} {B : Hp} {te : TE} {F : SM U} {K : PySem.W.Frag} {j : Nat} {p : Addr}
theorem es_ext {i : Nat} (hp : ps[j]? = some p) (hv : σ[i]? = some (some (.ref p))) (h : EvS M ps σ B te F) (hl : ∀ us y us', F us = some (y, us') → ∀ xs, us'[j]? = some (.frl xs) → ∃ ys, us[j]? = some (.frl ys)) :
    EvS M ps σ B (tBM K "list" rExtend (tVar i) (tCons te tNil)) (bindS F fun y => extS j y) := fun us z us' e B1 H1 g w Q q => by
  obtain ⟨y, us1, ey, e⟩ := bindS_some e
  unfold extS at e
  split at e
  · rename_i xs ys eu
    split at e
    · rename_i hlim
      cases e
      obtain ⟨zs, ezs⟩ := hl _ _ _ ey xs eu
      obtain ⟨_, vs0, e0, _⟩ := (w.at_ j p _ hp ezs).own rfl
      refine ⟨_, hv, .inl ⟨rfl, vs0, SqL.of e0⟩, h _ _ _ ey B1 H1 g w _ fun v B2 H2 g2 r2 w2 => ?_⟩
      have wp := w2.at_ j p _ hp eu
      obtain ⟨hb, vs, e1, r⟩ := wp.own rfl
      cases r2 with
      | @lst a _ vs2 h2 r2 =>
        exact ⟨p, a, vs, vs2, rfl, rfl, e1, g2.bh _ _ h2, Nat.le_of_lt (lim_lt (by rw [r.length, r2.length]; exact hlim)), q _ B2 _ (g2.trans (gs_upd hp g2.bh hb)) .non (own_upd hp w2 g2.bh wp.m hb ⟨_, upd_same, r.append r2⟩)⟩
    · cases e
  · cases e
end
end Dn
set_option Elab.async false
set_option linter.all false
set_option maxRecDepth 100000
set_option maxHeartbeats 4000000
namespace K06
open PySem L2 Dn
variable [CTab]
def top (i : Nat) : Stmt := PySem.Challenge.pw_basetrees_k06_whole_zigzags.main.body.getD i (.Pass ⟨0, 0, 0, 0⟩)
structure Tx (w : World) (K : PySem.W.Frag) (mg : Str → Option Value) (a : Nat → Addr) (d : Nat → FuncData) : Prop where
  b_len : mg "len" = none
  b_tuple : mg "tuple" = none
  b_isinstance : mg "isinstance" = none
  b_str : mg "str" = none
  b_all : mg "all" = none
  b_set : mg "set" = none
  b_any : mg "any" = none
  b_int : mg "int" = none
  b_abs : mg "abs" = none
  b_divmod : mg "divmod" = none
  b_range : mg "range" = none
  b_max : mg "max" = none
  b_list : mg "list" = none
  b_min : mg "min" = none
  b_sorted : mg "sorted" = none
  b_enumerate : mg "enumerate" = none
  c_LETTERS : ∃ t : Tok, mg "LETTERS" = some (.str "abcdefghijklmnopqrstuvwxyz" t)
  c_MOST_COPIES : ∃ t : Tok, mg "MOST_COPIES" = some (.int 40 t)
  f_are_beside : Fun K "are_beside" "are_beside" (top 2) (a 2) (d 2)
  g_are_beside : mg "are_beside" = some (.ref (a 2))
  bd_are_beside : Binds K (d 2) ["one", "other"] []
  f_walk_from : Fun K "walk_from" "walk_from" (top 3) (a 3) (d 3)
  g_walk_from : mg "walk_from" = some (.ref (a 3))
  bd_walk_from : Binds K (d 3) ["lines", "start"] []
  f_is_closed : Fun K "is_closed" "is_closed" (top 4) (a 4) (d 4)
  g_is_closed : mg "is_closed" = some (.ref (a 4))
  bd_is_closed : Binds K (d 4) ["row"] []
  f_row_of : Fun K "row_of" "row_of" (top 5) (a 5) (d 5)
  g_row_of : mg "row_of" = some (.ref (a 5))
  bd_row_of : Binds K (d 5) ["lines", "first"] []
  f_rows_in : Fun K "rows_in" "rows_in" (top 6) (a 6) (d 6)
  g_rows_in : mg "rows_in" = some (.ref (a 6))
  bd_rows_in : Binds K (d 6) ["lines"] []
  f_is_name : Fun K "is_name" "is_name" (top 15) (a 15) (d 15)
  g_is_name : mg "is_name" = some (.ref (a 15))
  bd_is_name : Binds K (d 15) ["value"] []
  f_are_sources : Fun K "are_sources" "are_sources" (top 17) (a 17) (d 17)
  g_are_sources : mg "are_sources" = some (.ref (a 17))
  bd_are_sources : Binds K (d 17) ["values", "names"] []
  f_web_in : Fun K "web_in" "web_in" (top 18) (a 18) (d 18)
  g_web_in : mg "web_in" = some (.ref (a 18))
  bd_web_in : Binds K (d 18) ["text"] []
  f_Web___init__ : Fun K "__init__" "Web.__init__" (inClass (top 19) 0) (a 1000) (d 1000)
  bd_Web___init__ : Binds K (d 1000) ["self", "text"] []
  f_check_web : Fun K "check_web" "check_web" (top 20) (a 20) (d 20)
  g_check_web : mg "check_web" = some (.ref (a 20))
  bd_check_web : Binds K (d 20) ["web"] []
  f_check_copy : Fun K "check_copy" "check_copy" (top 21) (a 21) (d 21)
  g_check_copy : mg "check_copy" = some (.ref (a 21))
  bd_check_copy : Binds K (d 21) ["web", "copy"] []
  f_Web_text : Fun K "text" "Web.text" (inClass (top 19) 1) (a 1001) (d 1001)
  pr_Web_text : ∃ p, PropOf K (CTab.ct 0) "text" p (a 1001)
  bd_Web_text : Binds K (d 1001) ["self"] []
  f_Web_names : Fun K "names" "Web.names" (inClass (top 19) 2) (a 1002) (d 1002)
  pr_Web_names : ∃ p, PropOf K (CTab.ct 0) "names" p (a 1002)
  bd_Web_names : Binds K (d 1002) ["self"] []
  f_Web_lines : Fun K "lines" "Web.lines" (inClass (top 19) 3) (a 1003) (d 1003)
  pr_Web_lines : ∃ p, PropOf K (CTab.ct 0) "lines" p (a 1003)
  bd_Web_lines : Binds K (d 1003) ["self"] []
  f_Web_sources : Fun K "sources" "Web.sources" (inClass (top 19) 5) (a 1005) (d 1005)
  mt_Web_sources : Meth K (CTab.ct 0) "sources" (a 1005)
  bd_Web_sources : Binds K (d 1005) ["self", "copy"] []
  f_Web_copies : Fun K "copies" "Web.copies" (inClass (top 19) 6) (a 1006) (d 1006)
  mt_Web_copies : Meth K (CTab.ct 0) "copies" (a 1006)
  bd_Web_copies : Binds K (d 1006) ["self", "source"] []
  f_Web___str__ : Fun K "__str__" "Web.__str__" (inClass (top 19) 9) (a 1009) (d 1009)
  mt_Web___str__ : Meth K (CTab.ct 0) "__str__" (a 1009)
  bd_Web___str__ : Binds K (d 1009) ["self"] []
  f_Web___repr__ : Fun K "__repr__" "Web.__repr__" (inClass (top 19) 10) (a 1010) (d 1010)
  mt_Web___repr__ : Meth K (CTab.ct 0) "__repr__" (a 1010)
  bd_Web___repr__ : Binds K (d 1010) ["self"] []
  f_Web___eq__ : Fun K "__eq__" "Web.__eq__" (inClass (top 19) 11) (a 1011) (d 1011)
  mt_Web___eq__ : Meth K (CTab.ct 0) "__eq__" (a 1011)
  bd_Web___eq__ : Binds K (d 1011) ["self", "other"] []
  f_check_line : Fun K "check_line" "check_line" (top 22) (a 22) (d 22)
  g_check_line : mg "check_line" = some (.ref (a 22))
  bd_check_line : Binds K (d 22) ["web", "source", "copy"] []
  f_all_rows : Fun K "all_rows" "all_rows" (top 24) (a 24) (d 24)
  g_all_rows : mg "all_rows" = some (.ref (a 24))
  bd_all_rows : Binds K (d 24) ["web"] []
  f_zigzags : Fun K "zigzags" "zigzags" (top 25) (a 25) (d 25)
  g_zigzags : mg "zigzags" = some (.ref (a 25))
  bd_zigzags : Binds K (d 25) ["web"] []
  f_zigzag_of : Fun K "zigzag_of" "zigzag_of" (top 26) (a 26) (d 26)
  g_zigzag_of : mg "zigzag_of" = some (.ref (a 26))
  bd_zigzag_of : Binds K (d 26) ["web", "source", "copy"] []
  f_law_purse : Fun K "_law_purse" "_law_purse" (top 28) (a 28) (d 28)
  g_law_purse : mg "_law_purse" = some (.ref (a 28))
  bd_law_purse : Binds K (d 28) ["_law_script", "_law_spot"] []
  f_law_draw : Fun K "_law_draw" "_law_draw" (top 29) (a 29) (d 29)
  g_law_draw : mg "_law_draw" = some (.ref (a 29))
  bd_law_draw : Binds K (d 29) ["_law_purse_here", "_law_many"] []
  f_law_pick : Fun K "_law_pick" "_law_pick" (top 30) (a 30) (d 30)
  g_law_pick : mg "_law_pick" = some (.ref (a 30))
  bd_law_pick : Binds K (d 30) ["_law_purse_here", "_law_some"] []
  f_law_labels : Fun K "_law_labels" "_law_labels" (top 31) (a 31) (d 31)
  g_law_labels : mg "_law_labels" = some (.ref (a 31))
  bd_law_labels : Binds K (d 31) ["_law_purse_here", "_law_many"] []
  f_law_rows : Fun K "_law_rows" "_law_rows" (top 32) (a 32) (d 32)
  g_law_rows : mg "_law_rows" = some (.ref (a 32))
  bd_law_rows : Binds K (d 32) ["_law_purse_here", "_law_many", "_law_joins"] []
  f_law_said : Fun K "_law_said" "_law_said" (top 33) (a 33) (d 33)
  g_law_said : mg "_law_said" = some (.ref (a 33))
  bd_law_said : Binds K (d 33) ["_law_rows_here"] []
  f_law_pairs : Fun K "_law_pairs" "_law_pairs" (top 34) (a 34) (d 34)
  g_law_pairs : mg "_law_pairs" = some (.ref (a 34))
  bd_law_pairs : Binds K (d 34) ["_law_rows_here"] []
  f_law_beside : Fun K "_law_beside" "_law_beside" (top 35) (a 35) (d 35)
  g_law_beside : mg "_law_beside" = some (.ref (a 35))
  bd_law_beside : Binds K (d 35) ["_law_one_pair", "_law_two_pair"] []
  f_law_row_right : Fun K "_law_row_right" "_law_row_right" (top 36) (a 36) (d 36)
  g_law_row_right : mg "_law_row_right" = some (.ref (a 36))
  bd_law_row_right : Binds K (d 36) ["_law_row_here", "_law_pairs_here"] []
  f_law_right : Fun K "_law_right" "_law_right" (top 37) (a 37) (d 37)
  g_law_right : mg "_law_right" = some (.ref (a 37))
  bd_law_right : Binds K (d 37) ["_law_purse_here"] []
  f_law : Fun K "law" "law" (top 38) (a 38) (d 38)
  g_law : mg "law" = some (.ref (a 38))
  bd_law : Binds K (d 38) ["_law_script"] []
  cl_Web : Cls K (CTab.ct 0)
  oc_Web : OwnC K (CTab.ct 0)
  n_Web_written : NoAttr K (CTab.ct 0) "written"
  n_Web_rows : NoAttr K (CTab.ct 0) "rows"
  n_Web_heads : NoAttr K (CTab.ct 0) "heads"
  n_Web_pairs : NoAttr K (CTab.ct 0) "pairs"
  n_Web_zigzag_rows : NoAttr K (CTab.ct 0) "zigzag_rows"
  mk_Web : Mk K (CTab.ct 0) (a 1000)
  g_Web : mg "Web" = some (.ref (CTab.ct 0))
theorem bb_len : bootBuiltins "len" = some (.builtin "len") := by decide +kernel
theorem bb_tuple : bootBuiltins "tuple" = some (.type "tuple") := by decide +kernel
theorem bb_isinstance : bootBuiltins "isinstance" = some (.builtin "isinstance") := by decide +kernel
theorem bb_str : bootBuiltins "str" = some (.type "str") := by decide +kernel
theorem bb_all : bootBuiltins "all" = some (.builtin "all") := by decide +kernel
theorem bb_set : bootBuiltins "set" = some (.type "set") := by decide +kernel
theorem bb_any : bootBuiltins "any" = some (.builtin "any") := by decide +kernel
theorem bb_int : bootBuiltins "int" = some (.type "int") := by decide +kernel
theorem bb_abs : bootBuiltins "abs" = some (.builtin "abs") := by decide +kernel
theorem bb_divmod : bootBuiltins "divmod" = some (.builtin "divmod") := by decide +kernel
theorem bb_range : bootBuiltins "range" = some (.type "range") := by decide +kernel
theorem bb_max : bootBuiltins "max" = some (.builtin "max") := by decide +kernel
theorem bb_list : bootBuiltins "list" = some (.type "list") := by decide +kernel
theorem bb_min : bootBuiltins "min" = some (.builtin "min") := by decide +kernel
theorem bb_sorted : bootBuiltins "sorted" = some (.builtin "sorted") := by decide +kernel
theorem bb_enumerate : bootBuiltins "enumerate" = some (.type "enumerate") := by decide +kernel
section
variable {P : Program} {w : World} {K : PySem.W.Frag} {mg : Str → Option Value} {base : Heap} {a : Nat → Addr} {d : Nat → FuncData}
/-! are_beside -/
abbrev s_are_beside : Stmt := top 2
abbrev N_are_beside : List Str := ["one", "other"]
theorem sc_are_beside : FnScope N_are_beside ["one", "other"] (defScope s_are_beside) := ⟨rfl, rfl, rfl, by decide +kernel, rfl, by decide +kernel, by decide +kernel⟩
def m_are_beside (p0 : U) (p1 : U) : Option U := (andV (op2 neV2 (some p0) (some p1)) (orV (op2 eqV2 (op2 getV (some p0) (some (U.int 0))) (op2 getV (some p1) (some (U.int 0)))) (op2 eqV2 (op2 getV (some p0) (some (U.int 1))) (op2 getV (some p1) (some (U.int 1))))))
theorem ok_are_beside (T : Tx w K mg a d) : FnOk P w K mg base CX0 1 (a 2) (d 2) ["one", "other"] (spU (a2 m_are_beside)) := by
  refine T.f_are_beside.ok sc_are_beside (fun vs H Q E h => ?_) (fun cdv A outer s H vs Q E hr h => ?_)
  · obtain ⟨B, p0, p1, vp0, vp1, r, rfl, _⟩ := sp2 h
    rfl
  · obtain ⟨B, p0, p1, vp0, vp1, r, rfl, sB, rp0, rp1, hM, k⟩ := sp2 h
    have nd := sc_are_beside.nd
    refine ⟨_, (pss_cons (ps_ret (pe_and (pe_cmpR (op_neU hr.units) (pv 0) (pv 1) (nomark _)) (pe_one (pe_or (pe_cmpR (op_eqU hr.units) (pe_ix (ix_anyK (K := K) rfl hr.units) (pv 0) pe_int (fun _ _ => rfl)) (pe_ix (ix_anyK (K := K) rfl hr.units) (pv 1) pe_int (fun _ _ => rfl)) (nomark _)) (pe_one (pe_cmpR (op_eqU hr.units) (pe_ix (ix_anyK (K := K) rfl hr.units) (pv 0) pe_int (fun _ _ => rfl)) (pe_ix (ix_anyK (K := K) rfl hr.units) (pv 1) pe_int (fun _ _ => rfl)) (nomark _))))))) pss_nil), ?_⟩
    exact (q_ret (eo_and (eo_op2 rv_ne (eo_var rfl rp0) (eo_var rfl rp1)) (eo_or (eo_op2 rv_eq (eo_op2 rv_get (eo_var rfl rp0) eo_int) (eo_op2 rv_get (eo_var rfl rp1) eo_int)) (eo_op2 rv_eq (eo_op2 rv_get (eo_var rfl rp0) eo_int) (eo_op2 rv_get (eo_var rfl rp1) eo_int)))) hM (Go.refl sB) k)
/-! walk_from -/
abbrev s_walk_from : Stmt := top 3
abbrev N_walk_from : List Str := ["lines", "start", "found", "now", "later", "line"]
def m_walk_from_w1 (p0 : U) (kL20 : U → SM U) : Nat → U → SM U
  | 0, _ => pureS none
  | k55 + 1, x40 => (ifS (pureS (testO (op2 isNotV (some x40) (some U.non)))) (bindS (lockO 0 fun u56 => (compO (fun u62 => (andO (testO (callO (a2 m_are_beside) (consO (some u62) (consO (some x40) (some []))))) (testO (op2 notInV2 (some u62) (some u56))))) (fun u62 => (some u62)) (iterO U.iter (some p0)))) fun x65 => (bindS (pureS (ifO (testO (op2 neV2 (some x65) (lstO (some [])))) (op2 getV (some x65) (some (U.int 0))) (some U.non))) fun x74 => (bindS (bindS (pureS (slO (some x65) (some none) (ptO (some (U.int 1))))) fun y => extS 0 y) fun _ => (m_walk_from_w1 p0 kL20 k55 (x74))))) (kL20 x40))
theorem sc_walk_from : FnScope N_walk_from ["lines", "start"] (defScope s_walk_from) := ⟨rfl, rfl, rfl, by decide +kernel, rfl, by decide +kernel, by decide +kernel⟩
def m_walk_fromS (p0 : U) (p1 : U) : SM U := (bindS (nlstS (pureS (consO (some p1) (some [])))) fun x => bindS (pureS (some p1)) fun y17 => addS x (withK (fun x40 => (bindS (takeS 0) fun x91 => (pureS (some x91)))) fun kL20 => (m_walk_from_w1 p0 kL20 300 (y17))))
def m_walk_from (p0 : U) (p1 : U) : Option U := runS (m_walk_fromS p0 p1)
theorem ok_walk_from (T : Tx w K mg a d) : FnOk P w K mg base CX0 2 (a 3) (d 3) ["lines", "start"] (spU (a2 m_walk_from)) := by
  refine T.f_walk_from.ok sc_walk_from (fun vs H Q E h => ?_) (fun cdv A outer s H vs Q E hr h => ?_)
  · obtain ⟨B, p0, p1, vp0, vp1, r, rfl, _⟩ := sp2 h
    rfl
  · obtain ⟨B, p0, p1, vp0, vp1, r, rfl, sB, rp0, rp1, hM, k⟩ := sp2 h
    have nd := sc_walk_from.nd
    obtain ⟨R, hM2, rfl⟩ := runS_some hM
    clear hM
    have k := fun v B2 H2 ps2 (W : Wh (bsU B H) B2 H2 ps2 R.2) r => k v B2 H2 W.pure r
    refine ⟨_, (pss_cons (ps_asg (pe_tup (pa_cons (pe_lst (pa_cons (pv 1) pa_nil)) (pa_cons (pv 1) pa_nil))) (pg_tupK (K := K) rfl (by rfl) (pgs_cons (pg_name (i := 2) nd rfl (Or.inr rfl)) (pgs_cons (pg_name (i := 3) nd rfl (Or.inr rfl)) pgs_nil)))) (pss_cons (ps_while PassesOwn.never (pt_cmpR op_isNotU (pv 3) pe_non (nomark _)) (pss_cons (ps_lockA (ps_setLc (i := 4) (own := [("line", 5)]) (g := gName 5) (by rfl) nd rfl rfl (sw_true rfl rfl rfl (by decide +kernel)) (pi_anyK (K := K) rfl (pv 0)) (blkOk_by (own := [("line", 5)]) (N := N_walk_from) (sc := defScope s_walk_from) (by decide +kernel)) (fun _ _ _ _ _ => pg_name (i := 5) nd rfl (Or.inl rfl)) (fun _ _ _ _ _ => (pts_one (PW.pt (pw_and (pt_val (pe_call (ok_are_beside T) (hr.mono (by decide)) (by rfl) T.g_are_beside T.f_are_beside.kp T.bd_are_beside .nil pass0 (pa_cons (pv 5) (pa_cons (pv 3) pa_nil)))) (pw_and1 (pt_cmpR (op_notInA hr.units) (pv 5) (pv 2) (by rfl))))))) (fun _ _ _ _ _ => (pv 5)))) (pss_cons (ps_set (i := 3) nd rfl (Or.inr rfl) (pe_ifExp (pt_cmpR (op_neU hr.units) (pv 4) (pe_lst pa_nil) (nomark _)) (pe_ix (ix_anyK (K := K) rfl hr.units) (pv 4) pe_int (fun _ _ => rfl)) pe_non)) (pss_cons (ps_expr (pe_extK (K := K) rfl (pv 2) (pa_cons (pe_slice (sl_anyK (K := K) rfl) (pv 4) po_none (po_some pe_int)) pa_nil))) pss_nil)))) (pss_cons (ps_ret (pv 2)) pss_nil))), ?_⟩
    exact (q_tupNV (wh_pure sB) (en_lst (eas_of (H := H) (ea_cons (eo_var rfl rp1) ea_nil))) (es_of (H := H) (eo_var rfl rp1)) hM2 fun ad16 y17 v18 B10 H11 us12 r19 W13 s14 h15 => (q_withS h15 fun kL20 ekL21 h22 => q_whileS (RR := R) (n := 300) (fun n23 sg24 H26 => ∃ (B25 : Hp) (o27 : Option V) (x28 : U) (v29 : V) (o30 : Option V) (o31 : Option V) (us32 : List U), sg24 = [some vp0, o27, some (.ref ad16), some v29, o30, o31] ∧ Same _ B25 ∧ Rp B25 x28 v29 ∧ Wh (bsU B H) B25 H26 [ad16] us32 ∧ m_walk_from_w1 p0 kL20 n23 x28 us32 = some R) ⟨_, _, y17, _, _, _, _, rfl, Same.refl _, r19, W13, h22⟩ fun m sg0 H0 hR => (by obtain ⟨B39, _, x40, v41, _, _, us37, rfl, s35, r42, W38, h36⟩ := hR; cases m with | zero => exact nomatch h36 | succ k55 => exact ⟨k55, _, _, _, _, _, _, rfl, W38, (ets_of (H := H) (et_test (eo_op2 rv_isNot (eo_var rfl r42) eo_non))), h36, (fun B43 H44 us45 W46 s47 h48 => (q_asgS W46 (es_lockO (j := 0) rfl fun u56 _ _ s57 r58 => (eo_lc (ei_any (eo_var rfl ((((rp0.sm s14).sm s35).sm s47).sm s57))) (fun _ => rfl) (fun u62 v63 B60 H61 g59 r64 => (et_and (et_B (eo_call (ea_cons (eo_var rfl r64) (ea_cons (eo_var rfl (((r42.sm s47).sm s57).upA g59)) ea_nil)))) (et_test (eo_op2 rv_notIn (eo_var rfl r64) (eo_var rfl (r58.upA g59)))))) (fun u62 v63 B60 H61 g59 r64 => (eo_var rfl r64)))) h48 fun x65 v66 B67 H68 us71 W72 s73 r70 h69 => (q_asgS W72 (es_of (H := H) (eo_if (et_test (eo_op2 rv_ne (eo_var rfl r70) (eo_lst ea_nil))) (eo_op2 rv_get (eo_var rfl r70) eo_int) eo_non)) h69 fun x74 v75 B76 H77 us80 W81 s82 r79 h78 => (q_exprS W81 (es_ext (j := 0) rfl rfl (es_of (H := H) (eo_slice (eo_var rfl (r70.sm s82)) ep_no (ep_of eo_int))) lk_of) h78 fun x83 B84 H85 us86 W87 s88 h89 => ⟨_, _, x74, _, _, _, _, rfl, ((((s35.trans s47).trans s73).trans s82).trans s88), (r79.sm s88), W87, h89⟩)))), (fun B49 H50 us51 W52 s53 h54 => (by subst ekL21; exact (q_keepS (j := 0) W52 rfl h54 fun x91 B92 us93 W94 s95 r96 h97 => (q_retS W94 (es_of (H := H) (eo_var rfl r96)) h97 k))))⟩)))
/-! is_closed -/
abbrev s_is_closed : Stmt := top 4
abbrev N_is_closed : List Str := ["row"]
theorem sc_is_closed : FnScope N_is_closed ["row"] (defScope s_is_closed) := ⟨rfl, rfl, rfl, by decide +kernel, rfl, by decide +kernel, by decide +kernel⟩
def m_is_closed (p0 : U) : Option U := (andV (op2 gtV (callO lenV (consO (some p0) (some []))) (some (U.int 2))) (callO (a2 m_are_beside) (consO (op2 getV (some p0) (some (U.int 0))) (consO (op2 getV (some p0) (op1 negV (some (U.int 1)))) (some [])))))
theorem ok_is_closed (T : Tx w K mg a d) : FnOk P w K mg base CX0 2 (a 4) (d 4) ["row"] (spU (a1 m_is_closed)) := by
  refine T.f_is_closed.ok sc_is_closed (fun vs H Q E h => ?_) (fun cdv A outer s H vs Q E hr h => ?_)
  · obtain ⟨B, p0, vp0, r, rfl, _⟩ := sp1 h
    rfl
  · obtain ⟨B, p0, vp0, r, rfl, sB, rp0, hM, k⟩ := sp1 h
    have nd := sc_is_closed.nd
    refine ⟨_, (pss_cons (ps_ret (pe_and (pe_cmpR op_gt (pe_callB (call_lenK (K := K) rfl) (by rfl) T.b_len bb_len (pa_cons (pv 0) pa_nil)) pe_int (nomark _)) (pe_one (pe_call (ok_are_beside T) (hr.mono (by decide)) (by rfl) T.g_are_beside T.f_are_beside.kp T.bd_are_beside .nil pass0 (pa_cons (pe_ix (ix_anyK (K := K) rfl hr.units) (pv 0) pe_int (fun _ _ => rfl)) (pa_cons (pe_ix (ix_anyK (K := K) rfl hr.units) (pv 0) (pe_un un_neg pe_int) (fun _ _ => rfl)) pa_nil)))))) pss_nil), ?_⟩
    exact (q_ret (eo_and (eo_op2 rv_gt (eo_cb' rc_len (ea_cons (eo_var rfl rp0) ea_nil)) eo_int) (eo_call (ea_cons (eo_op2 rv_get (eo_var rfl rp0) eo_int) (ea_cons (eo_op2 rv_get (eo_var rfl rp0) (eo_op1 ru_neg eo_int)) ea_nil)))) hM (Go.refl sB) k)
/-! row_of -/
abbrev s_row_of : Stmt := top 5
abbrev N_row_of : List Str := ["lines", "first", "row"]
theorem sc_row_of : FnScope N_row_of ["lines", "first"] (defScope s_row_of) := ⟨rfl, rfl, rfl, by decide +kernel, rfl, by decide +kernel, by decide +kernel⟩
def m_row_of (p0 : U) (p1 : U) : Option U := ((callO (a2 m_walk_from) (consO (some p0) (consO (some p1) (some [])))).bind fun x1 => (ifO (testO (callO (a1 m_is_closed) (consO (some x1) (some [])))) (callO (c1 tupleV) (consO (some x1) (some []))) ((callO (a2 m_walk_from) (consO (some p0) (consO (op2 getV (some x1) (op1 negV (some (U.int 1)))) (some [])))).bind fun x18 => (callO (c1 tupleV) (consO (ifO (testO (op2 leV (op2 tidxV (some p0) (op2 getV (some x18) (some (U.int 0)))) (op2 tidxV (some p0) (op2 getV (some x18) (op1 negV (some (U.int 1))))))) (some x18) (op2 stepV (some x18) (op1 negV (some (U.int 1))))) (some []))))))
theorem ok_row_of (T : Tx w K mg a d) : FnOk P w K mg base CX0 3 (a 5) (d 5) ["lines", "first"] (spU (a2 m_row_of)) := by
  refine T.f_row_of.ok sc_row_of (fun vs H Q E h => ?_) (fun cdv A outer s H vs Q E hr h => ?_)
  · obtain ⟨B, p0, p1, vp0, vp1, r, rfl, _⟩ := sp2 h
    rfl
  · obtain ⟨B, p0, p1, vp0, vp1, r, rfl, sB, rp0, rp1, hM, k⟩ := sp2 h
    have nd := sc_row_of.nd
    refine ⟨_, (pss_cons (ps_set (i := 2) nd rfl (Or.inl rfl) (pe_call (ok_walk_from T) (hr.mono (by decide)) (by rfl) T.g_walk_from T.f_walk_from.kp T.bd_walk_from .nil pass0 (pa_cons (pv 0) (pa_cons (pv 1) pa_nil)))) (pss_cons (ps_if (pt_val (pe_call (ok_is_closed T) (hr.mono (by decide)) (by rfl) T.g_is_closed T.f_is_closed.kp T.bd_is_closed .nil pass0 (pa_cons (pv 2) pa_nil))) (pss_cons (ps_ret (pe_callTy (call_tupleK (K := K) rfl) (by rfl) T.b_tuple bb_tuple (pa_cons (pv 2) pa_nil))) pss_nil) pss_nil) (pss_cons (ps_set (i := 2) nd rfl (Or.inl rfl) (pe_call (ok_walk_from T) (hr.mono (by decide)) (by rfl) T.g_walk_from T.f_walk_from.kp T.bd_walk_from .nil pass0 (pa_cons (pv 0) (pa_cons (pe_ix (ix_anyK (K := K) rfl hr.units) (pv 2) (pe_un un_neg pe_int) (fun _ _ => rfl)) pa_nil)))) (pss_cons (ps_ret (pe_callTy (call_tupleK (K := K) rfl) (by rfl) T.b_tuple bb_tuple (pa_cons (pe_ifExp (pt_cmpR op_le (pe_tidx hr.units (pv 0) (pa_cons (pe_ix (ix_anyK (K := K) rfl hr.units) (pv 2) pe_int (fun _ _ => rfl)) pa_nil)) (pe_tidx hr.units (pv 0) (pa_cons (pe_ix (ix_anyK (K := K) rfl hr.units) (pv 2) (pe_un un_neg pe_int) (fun _ _ => rfl)) pa_nil)) (nomark _)) (pv 2) (pe_stepK (K := K) rfl (pv 2) (pe_un un_neg pe_int))) pa_nil))) pss_nil)))), ?_⟩
    exact (q_asg sB (eo_call (ea_cons (eo_var rfl rp0) (ea_cons (eo_var rfl rp1) ea_nil))) hM fun x1 v2 B3 H4 g7 r6 h5 => (q_if g7.bh (et_B (eo_call (ea_cons (eo_var rfl r6) ea_nil))) h5 (fun e14 h10 B8 H9 g16 => (q_ret (eo_cb' rc_tuple (ea_cons (eo_var rfl (r6.up g16)) ea_nil)) h10 (((Go.refl sB).trans g7).trans g16) k)) (fun e15 h13 B11 H12 g17 => (q_asg g17.bh (eo_call (ea_cons (eo_var rfl ((rp0.up g7).up g17)) (ea_cons (eo_op2 rv_get (eo_var rfl (r6.up g17)) (eo_op1 ru_neg eo_int)) ea_nil))) h13 fun x18 v19 B20 H21 g24 r23 h22 => (q_ret (eo_cb' rc_tuple (ea_cons (eo_if (et_test (eo_op2 rv_le (eo_tidx (eo_var rfl (((rp0.up g7).up g17).up g24)) (eo_op2 rv_get (eo_var rfl r23) eo_int)) (eo_tidx (eo_var rfl (((rp0.up g7).up g17).up g24)) (eo_op2 rv_get (eo_var rfl r23) (eo_op1 ru_neg eo_int))))) (eo_var rfl r23) (eo_step (eo_var rfl r23) (eo_op1 ru_neg eo_int))) ea_nil)) h22 ((((Go.refl sB).trans g7).trans g17).trans g24) k)))))
/-! rows_in -/
abbrev s_rows_in : Stmt := top 6
abbrev N_rows_in : List Str := ["lines", "found", "met", "line", "row", "other"]
def m_rows_in_l2 (p0 : U) (kL81 : SM U) : List U → SM U
  | [] => kL81
  | u99 :: l100 => (bindS (pureS (some (U.bl true))) fun y119 => bindS (pureS (some u99)) fun k120 => bindS (putS 1 k120 y119) fun _ => (m_rows_in_l2 p0 kL81 l100))
def m_rows_in_l1 (p0 : U) (kL18 : SM U) : List U → SM U
  | [] => kL18
  | u36 :: l37 => (ifS (lockT 1 fun u50 => (testO (op2 notInV2 (some u36) (some u50)))) (bindS (pureS (callO (a2 m_row_of) (consO (some p0) (consO (some u36) (some []))))) fun x65 => (bindS (bindS (pureS (some x65)) fun y => appS 0 y) fun _ => (withK (m_rows_in_l1 p0 kL18 l37) fun kL81 => (bindS (pureS (iterO U.iter (some x65))) fun xs84 => m_rows_in_l2 p0 kL81 xs84)))) (m_rows_in_l1 p0 kL18 l37))
theorem sc_rows_in : FnScope N_rows_in ["lines"] (defScope s_rows_in) := ⟨rfl, rfl, rfl, by decide +kernel, rfl, by decide +kernel, by decide +kernel⟩
def m_rows_inS (p0 : U) : SM U := (bindS (nlstS (pureS (some []))) fun x => bindS (pureS (some (U.dit []))) fun y => addS x (addS y (withK (bindS (takeS 0) fun x140 => (pureS (callO (c1 tupleV) (consO (some x140) (some []))))) fun kL18 => (bindS (pureS (iterO U.iter (some p0))) fun xs21 => m_rows_in_l1 p0 kL18 xs21))))
def m_rows_in (p0 : U) : Option U := runS (m_rows_inS p0)
theorem ok_rows_in (T : Tx w K mg a d) : FnOk P w K mg base CX0 4 (a 6) (d 6) ["lines"] (spU (a1 m_rows_in)) := by
  refine T.f_rows_in.ok sc_rows_in (fun vs H Q E h => ?_) (fun cdv A outer s H vs Q E hr h => ?_)
  · obtain ⟨B, p0, vp0, r, rfl, _⟩ := sp1 h
    rfl
  · obtain ⟨B, p0, vp0, r, rfl, sB, rp0, hM, k⟩ := sp1 h
    have nd := sc_rows_in.nd
    obtain ⟨R, hM2, rfl⟩ := runS_some hM
    clear hM
    have k := fun v B2 H2 ps2 (W : Wh (bsU B H) B2 H2 ps2 R.2) r => k v B2 H2 W.pure r
    refine ⟨_, (pss_cons (ps_par (i := 1) (j := 2) (by rfl) nd rfl rfl (by decide) rfl rfl (pa_cons (pe_lst pa_nil) (pa_cons pe_dnewT pa_nil)) (by rfl)) (pss_cons (ps_for PassesOwn.never rfl (pi_anyK (K := K) rfl (pv 0)) (pg_name (i := 3) nd rfl (Or.inl rfl)) (pss_cons (ps_if (pt_lock (pt_cmpR (op_notInA hr.units) (pv 3) (pv 2) (by rfl))) (pss_cons (ps_set (i := 4) nd rfl (Or.inl rfl) (pe_call (ok_row_of T) (hr.mono (by decide)) (by rfl) T.g_row_of T.f_row_of.kp T.bd_row_of .nil pass0 (pa_cons (pv 0) (pa_cons (pv 3) pa_nil)))) (pss_cons (ps_expr (pe_appK (K := K) rfl (pv 1) (pa_cons (pv 4) pa_nil))) (pss_cons (ps_for PassesOwn.never rfl (pi_anyK (K := K) rfl (pv 4)) (pg_name (i := 5) nd rfl (Or.inl rfl)) (pss_cons (ps_dput (by exact Nat.lt_of_le_of_lt (Nat.add_le_add_left (show 1 ≤ 64 by decide) _) hr.units) (pv 2) (pv 5) pe_bl rfl) pss_nil)) pss_nil))) pss_nil) pss_nil)) (pss_cons (ps_ret (pe_callTy (call_tupleK (K := K) rfl) (by rfl) T.b_tuple bb_tuple (pa_cons (pv 1) pa_nil))) pss_nil))), ?_⟩
    exact (q_parNN (wh_pure sB) (en_lst (eas_of (H := H) ea_nil)) en_dnewT hM2 fun ad16 ad17 B10 H11 us12 W13 s14 h15 => (q_withS h15 fun kL18 ekL19 h20 => q_forS W13 (eis_of (H := H) (ei_any (eo_var rfl (rp0.sm s14)))) h20 fun xs21 B22 H23 us25 W26 s27 h24 => ⟨fun l28 sg29 B30 H31 => ∃ (o32 : Option V) (o33 : Option V) (o34 : Option V) (us35 : List U), sg29 = [some vp0, some (.ref ad16), some (.ref ad17), o32, o33, o34] ∧ Same B22 B30 ∧ Wh (bsU B H) B30 H31 [ad16, ad17] us35 ∧ m_rows_in_l1 p0 kL18 l28 us35 = some R, ⟨_, _, _, us25, rfl, Same.refl _, W26, h24⟩, fun _ _ _ _ ⟨_, _, _, _, _, sX, WX, _⟩ => ⟨sX, WX.s⟩, fun u36 l37 v38 sg147 B39 H40 B41 H42 hR g43 r44 => (by obtain ⟨_, _, _, us48, rfl, s46, W49, h47⟩ := hR; exact (q_ifS (W49.go g43) (ets_lockT (j := 1) rfl fun u50 _ _ s51 r52 => (et_test (eo_op2 rv_notIn (eo_var rfl (r44.sm s51)) (eo_var rfl r52)))) h47 (fun B53 H54 us59 W60 s61 h55 => (q_asgS W60 (es_of (H := H) (eo_call (ea_cons (eo_var rfl (((((rp0.sm s14).sm s27).sm s46).up g43).sm s61)) (ea_cons (eo_var rfl (r44.sm s61)) ea_nil)))) h55 fun x65 v66 B67 H68 us71 W72 s73 r70 h69 => (q_exprS W72 (es_app (j := 0) rfl rfl (es_of (H := H) (eo_var rfl r70)) lk_of) h69 fun x74 B75 H76 us77 W78 s79 h80 => (q_withS h80 fun kL81 ekL82 h83 => q_forS W78 (eis_of (H := H) (ei_any (eo_var rfl (r70.sm s79)))) h83 fun xs84 B85 H86 us88 W89 s90 h87 => ⟨fun l91 sg92 B93 H94 => ∃ (o95 : Option V) (o96 : Option V) (o97 : Option V) (us98 : List U), sg92 = [some vp0, some (.ref ad16), some (.ref ad17), o95, o96, o97] ∧ Same B85 B93 ∧ Wh (bsU B H) B93 H94 [ad16, ad17] us98 ∧ m_rows_in_l2 p0 kL81 l91 us98 = some R, ⟨_, _, _, us88, rfl, Same.refl _, W89, h87⟩, fun _ _ _ _ ⟨_, _, _, _, _, sX, WX, _⟩ => ⟨sX, WX.s⟩, fun u99 l100 v101 sg130 B102 H103 B104 H105 hR g106 r107 => (by obtain ⟨_, _, _, us111, rfl, s109, W112, h110⟩ := hR; exact (q_dput (jj := 1) (W112.go g106) rfl rfl (es_of (H := H) eo_bl) (es_of (H := H) (eo_var rfl r107)) h110 fun B113 H114 us115 W116 s117 h118 => ⟨_, _, _, _, _, rfl, ((s109.trans g106.b).trans s117), W116, h118⟩)), fun sg126 B127 H128 hR => (by obtain ⟨_, _, _, us124, rfl, s122, W125, h123⟩ := hR; have h129 : kL81 us124 = some R := h123; subst ekL82; exact ⟨_, _, _, _, _, rfl, ((((((s46.trans g43.b).trans s61).trans s73).trans s79).trans s90).trans s122), W125, h129⟩)⟩)))) (fun B56 H57 us62 W63 s64 h58 => ⟨_, _, _, _, _, rfl, ((s46.trans g43.b).trans s64), W63, h58⟩))), fun sg136 B137 H138 hR => (by obtain ⟨_, _, _, us134, rfl, s132, W135, h133⟩ := hR; have h139 : kL18 us134 = some R := h133; subst ekL19; exact (q_keepS (j := 0) W135 rfl h139 fun x140 B141 us142 W143 s144 r145 h146 => (q_retS W143 (es_of (H := H) (eo_cb' rc_tuple (ea_cons (eo_var rfl r145) ea_nil))) h146 k)))⟩))
/-! is_name -/
abbrev s_is_name : Stmt := top 15
abbrev N_is_name : List Str := ["value", "sign"]
theorem sc_is_name : FnScope N_is_name ["value"] (defScope s_is_name) := ⟨rfl, rfl, rfl, by decide +kernel, rfl, by decide +kernel, by decide +kernel⟩
def m_is_name (p0 : U) : Option U := (andV (isO isStrB (some p0)) (andV (chainO leV leV (some (U.int 1)) (callO lenV (consO (some p0) (some []))) (some (U.int 8))) (callO (c1 allV) (consO (compO (fun u4 => (some true)) (fun u4 => (op2 inV2 (some u4) (some (U.str "abcdefghijklmnopqrstuvwxyz")))) (iterO U.signs (some p0))) (some [])))))
theorem ok_is_name (T : Tx w K mg a d) : FnOk P w K mg base CX0 1 (a 15) (d 15) ["value"] (spU (a1 m_is_name)) := by
  refine T.f_is_name.ok sc_is_name (fun vs H Q E h => ?_) (fun cdv A outer s H vs Q E hr h => ?_)
  · obtain ⟨B, p0, vp0, r, rfl, _⟩ := sp1 h
    rfl
  · obtain ⟨B, p0, vp0, r, rfl, sB, rp0, hM, k⟩ := sp1 h
    have nd := sc_is_name.nd
    refine ⟨_, (pss_cons (ps_ret (pe_and (pe_callB (call_isiKK (K := K) rfl) (by rfl) T.b_isinstance bb_isinstance (pa_cons (pv 0) (pa_cons (pe_bltn (v := .ty "str") (by rfl) T.b_str bb_str rfl) pa_nil))) (pe_and (pe_chain op_le op_le pe_int (pe_callB (call_lenK (K := K) rfl) (by rfl) T.b_len bb_len (pa_cons (pv 0) pa_nil)) pe_int) (pe_one (pe_callB (cr_allK (K := K) rfl rfl) (by rfl) T.b_all bb_all (pa_cons (pe_lc (own := [("sign", 1)]) (g := gName 1) (tt := tYes) (by rfl) nd (pi_str (pv 0)) (blkOk_by (own := [("sign", 1)]) (N := N_is_name) (sc := defScope s_is_name) (by decide +kernel)) (fun _ _ _ _ _ => pg_name (i := 1) nd rfl (Or.inl rfl)) (fun _ _ _ _ _ => pts_nil) (fun _ _ _ _ _ => (pe_cmpR (op_inA hr.units) (pv 1) (pe_glob (v := .str "abcdefghijklmnopqrstuvwxyz") (by rfl) T.c_LETTERS.choose_spec ⟨_, rfl⟩) (by rfl)))) pa_nil)))))) pss_nil), ?_⟩
    exact (q_ret (eo_and (eo_isStr (eo_var rfl rp0)) (eo_and (eo_chain rv_le rv_le eo_int (eo_cb' rc_len (ea_cons (eo_var rfl rp0) ea_nil)) eo_int) (eo_cb' rc_all (ea_cons (eo_lc (ei_str (eo_var rfl rp0)) (fun _ => rfl) (fun u4 v5 B2 H3 g1 r6 => et_yes) (fun u4 v5 B2 H3 g1 r6 => (eo_op2 rv_in (eo_var rfl r6) eo_str))) ea_nil)))) hM (Go.refl sB) k)
/-! are_sources -/
abbrev s_are_sources : Stmt := top 17
abbrev N_are_sources : List Str := ["values", "names", "value"]
theorem sc_are_sources : FnScope N_are_sources ["values", "names"] (defScope s_are_sources) := ⟨rfl, rfl, rfl, by decide +kernel, rfl, by decide +kernel, by decide +kernel⟩
def m_are_sources (p0 : U) (p1 : U) : Option U := (ifO (orO (notO (testO (chainO leV leV (some (U.int 1)) (callO lenV (consO (some p0) (some []))) (some (U.int 2))))) (notO (testO (callO (c1 allV) (consO (compO (fun u4 => (some true)) (fun u4 => (andV (isO isStrB (some u4)) (op2 inV2 (some u4) (some p1)))) (iterO U.iter (some p0))) (some [])))))) (some (U.bl false)) (op2 eqV2 (op1 lenSetV (some p0)) (callO lenV (consO (some p0) (some [])))))
theorem ok_are_sources (T : Tx w K mg a d) : FnOk P w K mg base CX0 1 (a 17) (d 17) ["values", "names"] (spU (a2 m_are_sources)) := by
  refine T.f_are_sources.ok sc_are_sources (fun vs H Q E h => ?_) (fun cdv A outer s H vs Q E hr h => ?_)
  · obtain ⟨B, p0, p1, vp0, vp1, r, rfl, _⟩ := sp2 h
    rfl
  · obtain ⟨B, p0, p1, vp0, vp1, r, rfl, sB, rp0, rp1, hM, k⟩ := sp2 h
    have nd := sc_are_sources.nd
    refine ⟨_, (pss_cons (ps_if (PW.pt (pw_or (pt_not (pt_chain op_le op_le pe_int (pe_callB (call_lenK (K := K) rfl) (by rfl) T.b_len bb_len (pa_cons (pv 0) pa_nil)) pe_int)) (pw_or1 (pt_not (pt_val (pe_callB (cr_allK (K := K) rfl rfl) (by rfl) T.b_all bb_all (pa_cons (pe_lc (own := [("value", 2)]) (g := gName 2) (tt := tYes) (by rfl) nd (pi_anyK (K := K) rfl (pv 0)) (blkOk_by (own := [("value", 2)]) (N := N_are_sources) (sc := defScope s_are_sources) (by decide +kernel)) (fun _ _ _ _ _ => pg_name (i := 2) nd rfl (Or.inl rfl)) (fun _ _ _ _ _ => pts_nil) (fun _ _ _ _ _ => (pe_and (pe_callB (call_isiKK (K := K) rfl) (by rfl) T.b_isinstance bb_isinstance (pa_cons (pv 2) (pa_cons (pe_bltn (v := .ty "str") (by rfl) T.b_str bb_str rfl) pa_nil))) (pe_one (pe_cmpR (op_inA hr.units) (pv 2) (pv 1) (by rfl)))))) pa_nil))))))) (pss_cons (ps_ret pe_bl) pss_nil) pss_nil) (pss_cons (ps_ret (pe_cmpR (op_eqU hr.units) (pe_lenS (K := K) rfl rfl (by rfl) T.b_len (by rfl) T.b_set (pv 0)) (pe_callB (call_lenK (K := K) rfl) (by rfl) T.b_len bb_len (pa_cons (pv 0) pa_nil)) (nomark _))) pss_nil)), ?_⟩
    exact (q_if sB (et_or (et_not (et_test (eo_chain rv_le rv_le eo_int (eo_cb' rc_len (ea_cons (eo_var rfl rp0) ea_nil)) eo_int))) (et_not (et_B (eo_cb' rc_all (ea_cons (eo_lc (ei_any (eo_var rfl rp0)) (fun _ => rfl) (fun u4 v5 B2 H3 g1 r6 => et_yes) (fun u4 v5 B2 H3 g1 r6 => (eo_and (eo_isStr (eo_var rfl r6)) (eo_op2 rv_in (eo_var rfl r6) (eo_var rfl (rp1.upA g1)))))) ea_nil))))) hM (fun e13 h9 B7 H8 g15 => (q_ret eo_bl h9 ((Go.refl sB).trans g15) k)) (fun e14 h12 B10 H11 g16 => (q_ret (eo_op2 rv_eq (eo_lenS (eo_var rfl (rp0.up g16))) (eo_cb' rc_len (ea_cons (eo_var rfl (rp0.up g16)) ea_nil))) h12 ((Go.refl sB).trans g16) k)))
/-! web_in -/
abbrev s_web_in : Stmt := top 18
abbrev N_web_in : List Str := ["text", "found", "part", "words", "used", "sources", "source", "name"]
def m_web_in_l1 (kL20 : SM U) : List U → SM U
  | [] => kL20
  | u42 :: l43 => (bindS (pureS (op2 splitV (some u42) (some (U.str " ")))) fun x56 => (ifS (orS (pureS (notO (testO (callO (a1 m_is_name) (consO (op2 getV (some x56) (some (U.int 0))) (some [])))))) (lockT 0 fun u65 => (testO (op2 inV2 (op2 getV (some x56) (some (U.int 0))) (some u65))))) (pureS (some U.non)) (ifS (orS (andS (lockT 0 fun u80 => (testO (op1 (empV false) (some u80)))) (pureS (testO (op2 gtV (callO lenV (consO (some x56) (some []))) (some (U.int 1)))))) (andS (lockT 0 fun u83 => (testO (op1 (empV true) (some u83)))) (notS (lockT 0 fun u86 => (testO (callO (a2 m_are_sources) (consO (slO (some x56) (ptO (some (U.int 1))) (some none)) (consO (some u86) (some []))))))))) (pureS (some U.non)) (bindS (pureS (callO (c1 tupleV) (consO (slO (some x56) (ptO (some (U.int 1))) (some none)) (some [])))) fun y107 => bindS (pureS (op2 getV (some x56) (some (U.int 0)))) fun k108 => bindS (putS 0 k108 y107) fun _ => (m_web_in_l1 kL20 l43)))))
theorem sc_web_in : FnScope N_web_in ["text"] (defScope s_web_in) := ⟨rfl, rfl, rfl, by decide +kernel, rfl, by decide +kernel, by decide +kernel⟩
def m_web_inS (p0 : U) : SM U := (ifS (pureS (notO (testO (isO isStrB (some p0))))) (pureS (some U.non)) (bindS (pureS (some (U.dic []))) fun u => addS u (withK (bindS (lockO 0 fun u118 => (compOO (fun u124 => (some true)) (fun u124 => (iterO U.iter (some u124))) (fun u124 u127 => (some true)) (fun u124 u127 => (some u127)) (iterO U.vals (some u118)))) fun x130 => (ifS (orS (testS (opS gtV (lockO 0 fun u139 => (callO lenV (consO (some u139) (some [])))) (pureS (some (U.int 40))))) (testS (callS (c1 anyV) (consS (lockO 0 fun u142 => (compO (fun u148 => (some true)) (fun u148 => (op2 gtV (op2 countV (some x130) (some u148)) (some (U.int 2)))) (iterO U.iter (some u142)))) (pureS (some [])))))) (pureS (some U.non)) (lockO 0 fun u163 => (op1 itemsV (some u163))))) fun kL20 => (bindS (pureS (iterO U.iter (op2 splitV (some p0) (some (U.str "; "))))) fun xs23 => m_web_in_l1 kL20 xs23))))
def m_web_in (p0 : U) : Option U := runS (m_web_inS p0)
theorem ok_web_in (T : Tx w K mg a d) : FnOk P w K mg base CX0 2 (a 18) (d 18) ["text"] (spU (a1 m_web_in)) := by
  refine T.f_web_in.ok sc_web_in (fun vs H Q E h => ?_) (fun cdv A outer s H vs Q E hr h => ?_)
  · obtain ⟨B, p0, vp0, r, rfl, _⟩ := sp1 h
    rfl
  · obtain ⟨B, p0, vp0, r, rfl, sB, rp0, hM, k⟩ := sp1 h
    have nd := sc_web_in.nd
    obtain ⟨R, hM2, rfl⟩ := runS_some hM
    clear hM
    have k := fun v B2 H2 ps2 (W : Wh (bsU B H) B2 H2 ps2 R.2) r => k v B2 H2 W.pure r
    refine ⟨_, (pss_cons (ps_if (pt_not (pt_val (pe_callB (call_isiKK (K := K) rfl) (by rfl) T.b_isinstance bb_isinstance (pa_cons (pv 0) (pa_cons (pe_bltn (v := .ty "str") (by rfl) T.b_str bb_str rfl) pa_nil))))) (pss_cons (ps_ret pe_non) pss_nil) pss_nil) (pss_cons (ps_set (i := 1) nd rfl (Or.inl rfl) pe_dnewK) (pss_cons (ps_for PassesOwn.never rfl (pi_anyK (K := K) rfl (pe_split (pv 0) pe_str)) (pg_name (i := 2) nd rfl (Or.inl rfl)) (pss_cons (ps_set (i := 3) nd rfl (Or.inl rfl) (pe_split (pv 2) pe_str)) (pss_cons (ps_if (PW.pt (pw_or (pt_not (pt_val (pe_call (ok_is_name T) (hr.mono (by decide)) (by rfl) T.g_is_name T.f_is_name.kp T.bd_is_name .nil pass0 (pa_cons (pe_ix (ix_anyK (K := K) rfl hr.units) (pv 3) pe_int (fun _ _ => rfl)) pa_nil)))) (pw_or1 (pt_lock (pt_cmpR (op_inA hr.units) (pe_ix (ix_anyK (K := K) rfl hr.units) (pv 3) pe_int (fun _ _ => rfl)) (pv 1) (by rfl)))))) (pss_cons (ps_ret pe_non) pss_nil) pss_nil) (pss_cons (ps_if (PW.pt (pw_or (PW.pt (pw_and (pt_lock (pt_cmpR (op_emp hr.units) (pv 1) pe_dnewK (nomark _))) (pw_and1 (pt_cmpR op_gt (pe_callB (call_lenK (K := K) rfl) (by rfl) T.b_len bb_len (pa_cons (pv 3) pa_nil)) pe_int (nomark _))))) (pw_or1 (PW.pt (pw_and (pt_lock (pt_cmpR (op_nemp hr.units) (pv 1) pe_dnewK (nomark _))) (pw_and1 (pt_not (pt_lock (pt_val (pe_call (ok_are_sources T) (hr.mono (by decide)) (by rfl) T.g_are_sources T.f_are_sources.kp T.bd_are_sources .nil pass0 (pa_cons (pe_slice (sl_anyK (K := K) rfl) (pv 3) (po_some pe_int) po_none) (pa_cons (pv 1) pa_nil)))))))))))) (pss_cons (ps_ret pe_non) pss_nil) pss_nil) (pss_cons (ps_dput (by exact Nat.lt_of_le_of_lt (Nat.add_le_add_left (show 1 ≤ 64 by decide) _) hr.units) (pv 1) (pe_ix (ix_anyK (K := K) rfl hr.units) (pv 3) pe_int (fun _ _ => rfl)) (pe_callTy (call_tupleK (K := K) rfl) (by rfl) T.b_tuple bb_tuple (pa_cons (pe_slice (sl_anyK (K := K) rfl) (pv 3) (po_some pe_int) po_none) pa_nil)) rfl) pss_nil))))) (pss_cons (ps_lockA (ps_set (i := 4) nd rfl (Or.inr rfl) (pe_lc2 (own := [("sources", 5), ("source", 6)]) (vs1 := [6]) (g := gName 5) (g1 := gName 6) (by rfl) nd (pi_values (pv 1)) (blkOk_by (own := [("sources", 5), ("source", 6)]) (N := N_web_in) (sc := defScope s_web_in) (by decide +kernel)) (by decide) (fun _ _ _ _ _ => pg_name (i := 5) nd rfl (Or.inl rfl)) (fun _ _ _ _ _ => pts_nil) (fun _ _ _ _ _ => (pi_anyK (K := K) rfl (pv 5))) (fun _ _ _ _ _ => pg_name (i := 6) nd rfl (Or.inl rfl)) (fun _ _ _ _ _ => pts_nil) (fun _ _ _ _ _ => (pv 6))))) (pss_cons (ps_if (PW.pt (pw_or (pt_cmpR op_gt (pe_lock (pe_callB (call_lenK (K := K) rfl) (by rfl) T.b_len bb_len (pa_cons (pv 1) pa_nil))) (pe_glob (v := .int 40) (by rfl) T.c_MOST_COPIES.choose_spec ⟨_, rfl⟩) (nomark _)) (pw_or1 (pt_val (pe_callB (cr_anyK (K := K) rfl rfl) (by rfl) T.b_any bb_any (pa_cons (pe_lock (pe_lc (own := [("name", 7)]) (g := gName 7) (tt := tYes) (by rfl) nd (pi_anyK (K := K) rfl (pv 1)) (blkOk_by (own := [("name", 7)]) (N := N_web_in) (sc := defScope s_web_in) (by decide +kernel)) (fun _ _ _ _ _ => pg_name (i := 7) nd rfl (Or.inl rfl)) (fun _ _ _ _ _ => pts_nil) (fun _ _ _ _ _ => (pe_cmpR op_gt (pe_countK (K := K) rfl (pv 4) (pa_cons (pv 7) pa_nil)) pe_int (nomark _))))) pa_nil)))))) (pss_cons (ps_ret pe_non) pss_nil) pss_nil) (pss_cons (ps_ret (pe_lock (pe_tupItems rfl (pv 1) (by rfl) T.b_tuple bb_tuple))) pss_nil)))))), ?_⟩
    exact (q_ifS (wh_pure sB) (ets_of (H := H) (et_not (et_B (eo_isStr (eo_var rfl rp0))))) hM2 (fun B1 H2 us7 W8 s9 h3 => (q_retS W8 (es_of (H := H) eo_non) h3 k)) (fun B4 H5 us10 W11 s12 h6 => (q_newS W11 en_dnewK h6 fun ad13 B14 H15 us16 W17 s18 h19 => (q_withS h19 fun kL20 ekL21 h22 => q_forS W17 (eis_of (H := H) (ei_any (eo_split (eo_var rfl ((rp0.sm s12).sm s18)) eo_str))) h22 fun xs23 B24 H25 us27 W28 s29 h26 => ⟨fun l30 sg31 B32 H33 => ∃ (o34 : Option V) (o35 : Option V) (o36 : Option V) (o37 : Option V) (o38 : Option V) (o39 : Option V) (o40 : Option V) (us41 : List U), sg31 = [o34, some (.ref ad13), o35, o36, o37, o38, o39, o40] ∧ Same B24 B32 ∧ Wh (bsU B H) B32 H33 [ad13] us41 ∧ m_web_in_l1 kL20 l30 us41 = some R, ⟨_, _, _, _, _, _, _, us27, rfl, Same.refl _, W28, h26⟩, fun _ _ _ _ ⟨_, _, _, _, _, _, _, _, _, sX, WX, _⟩ => ⟨sX, WX.s⟩, fun u42 l43 v44 sg166 B45 H46 B47 H48 hR g49 r50 => (by obtain ⟨_, _, _, _, _, _, _, us54, rfl, s52, W55, h53⟩ := hR; exact (q_asgS (W55.go g49) (es_of (H := H) (eo_split (eo_var rfl r50) eo_str)) h53 fun x56 v57 B58 H59 us62 W63 s64 r61 h60 => (q_ifS W63 (ets_or (ets_of (H := H) (et_not (et_B (eo_call (ea_cons (eo_op2 rv_get (eo_var rfl r61) eo_int) ea_nil))))) (ets_lockT (j := 0) rfl fun u65 _ _ s66 r67 => (et_test (eo_op2 rv_in (eo_op2 rv_get (eo_var rfl (r61.sm s66)) eo_int) (eo_var rfl r67))))) h60 (fun B68 H69 us74 W75 s76 h70 => (q_retS W75 (es_of (H := H) eo_non) h70 k)) (fun B71 H72 us77 W78 s79 h73 => (q_ifS W78 (ets_or (ets_and (ets_lockT (j := 0) rfl fun u80 _ _ s81 r82 => (et_test (eo_emp (eo_var rfl r82)))) (ets_of (H := H) (et_test (eo_op2 rv_gt (eo_cb' rc_len (ea_cons (eo_var rfl (r61.sm s79)) ea_nil)) eo_int)))) (ets_and (ets_lockT (j := 0) rfl fun u83 _ _ s84 r85 => (et_test (eo_emp (eo_var rfl r85)))) (ets_not (ets_lockT (j := 0) rfl fun u86 _ _ s87 r88 => (et_B (eo_call (ea_cons (eo_slice (eo_var rfl ((r61.sm s79).sm s87)) (ep_of eo_int) ep_no) (ea_cons (eo_var rfl r88) ea_nil)))))))) h73 (fun B89 H90 us95 W96 s97 h91 => (q_retS W96 (es_of (H := H) eo_non) h91 k)) (fun B92 H93 us98 W99 s100 h94 => (q_dput (jj := 0) W99 rfl rfl (es_of (H := H) (eo_cb' rc_tuple (ea_cons (eo_slice (eo_var rfl ((r61.sm s79).sm s100)) (ep_of eo_int) ep_no) ea_nil))) (es_of (H := H) (eo_op2 rv_get (eo_var rfl ((r61.sm s79).sm s100)) eo_int)) h94 fun B101 H102 us103 W104 s105 h106 => ⟨_, _, _, _, _, _, _, _, _, rfl, (((((s52.trans g49.b).trans s64).trans s79).trans s100).trans s105), W104, h106⟩))))))), fun sg114 B115 H116 hR => (by obtain ⟨_, _, _, _, _, _, _, us112, rfl, s110, W113, h111⟩ := hR; have h117 : kL20 us112 = some R := h111; subst ekL21; exact (q_asgS W113 (es_lockO (j := 0) rfl fun u118 _ _ s119 r120 => (eo_lc2 (ei_vals (eo_var rfl r120)) (fun _ => rfl) (fun _ _ => rfl) (fun u124 v125 B122 H123 g121 r126 => et_yes) (fun u124 v125 B122 H123 g121 r126 => (ei_any (eo_var rfl r126))) (fun u124 v125 u127 v128 B122 H123 g121 r126 r129 => et_yes) (fun u124 v125 u127 v128 B122 H123 g121 r126 r129 => (eo_var rfl r129)))) h117 fun x130 v131 B132 H133 us136 W137 s138 r135 h134 => (q_ifS W137 (ets_or (ets_test (es_op2 rv_gt (es_lockO (j := 0) rfl fun u139 _ _ s140 r141 => (eo_cb' rc_len (ea_cons (eo_var rfl r141) ea_nil))) (es_of (H := H) eo_int))) (ets_B (es_cb rc_any (eas_cons (es_lockO (j := 0) rfl fun u142 _ _ s143 r144 => (eo_lc (ei_any (eo_var rfl r144)) (fun _ => rfl) (fun u148 v149 B146 H147 g145 r150 => et_yes) (fun u148 v149 B146 H147 g145 r150 => (eo_op2 rv_gt (eo_count (eo_var rfl ((r135.sm s143).upA g145)) (eo_var rfl r150)) eo_int)))) eas_nil)))) h134 (fun B151 H152 us157 W158 s159 h153 => (q_retS W158 (es_of (H := H) eo_non) h153 k)) (fun B154 H155 us160 W161 s162 h156 => (q_retS W161 (es_lockO (j := 0) rfl fun u163 _ _ s164 r165 => (eo_tupItems (eo_var rfl r165))) h156 k)))))⟩))))
/-! Web.__init__ -/
abbrev s_Web___init__ : Stmt := inClass (top 19) 0
abbrev N_Web___init__ : List Str := ["self", "text", "found", "name", "sources", "source"]
def m_Web_init (p0 : U) : Option (List (Str × U)) := ((callO (a1 m_web_in) (consO (some p0) (some [])))).bind fun found => ((testO (op2 isV (some found) (some U.non)))).bind fun no => if no = true then none else ((callO (c1 tupleV) (consO (compO2 (fun u4 u7 => (some true)) (fun u4 u7 => (some u4)) (iterO U.iter (some found))) (some [])))).bind fun heads => ((callO (c1 tpdV) (consO (compOO (fun uu => (unp2 uu).bind fun ab => (fun u13 u16 => (some true)) ab.1 ab.2) (fun uu => (unp2 uu).bind fun ab => (fun u13 u16 => (iterO U.iter (some u16))) ab.1 ab.2) (fun uu u19 => (unp2 uu).bind fun ab => (fun u13 u16 => (some true)) ab.1 ab.2) (fun uu u19 => (unp2 uu).bind fun ab => (fun u13 u16 => (tupO (consO (some u19) (consO (some u13) (some []))))) ab.1 ab.2) (iterO U.iter (some found))) (some [])))).bind fun prs => match prs with
  | .tpd ps => ((a1 m_rows_in) [.tpd ps]).map fun rows => webF p0 found heads (.tpd ps) rows
  | _ => none
theorem sc_Web_init : FnScope N_Web___init__ ["self", "text"] (defScope s_Web___init__) := ⟨rfl, rfl, rfl, by decide +kernel, rfl, by decide +kernel, by decide +kernel⟩
theorem ok_Web_init (T : Tx w K mg a d) : FnOk P w K mg base CX0 5 (a 1000) (d 1000) ["self", "text"] (spMk 0 m_Web_init) := by
  refine T.f_Web___init__.ok sc_Web_init (fun vs H Q E h => ?_) (fun cdv A outer s H vs Q E hr h => ?_)
  · obtain ⟨B, x, dx, v, p0, fs, _, rfl, _⟩ := h
    rfl
  · obtain ⟨B, x, dx, v, p0, fs, sB, rfl, M, rt, hM, k⟩ := h
    have nd := sc_Web_init.nd
    obtain ⟨found, e1, hM⟩ := bind_some hM
    obtain ⟨no, e2, hM⟩ := bind_some hM
    cases no with
    | true => cases hM
    | false =>
      obtain ⟨heads, e4, hM⟩ := bind_some (show ((callO (c1 tupleV) (consO (compO2 (fun u4 u7 => (some true)) (fun u4 u7 => (some u4)) (iterO U.iter (some found))) (some [])))).bind _ = some fs from hM)
      obtain ⟨prs, e5, hM⟩ := bind_some hM
      split at hM
      · rename_i ps
        obtain ⟨rows, e6, hM⟩ := map_some hM
        subst hM
        refine ⟨_, (pss_cons (ps_set (i := 2) nd rfl (Or.inl rfl) (pe_call (ok_web_in T) (hr.mono (by decide)) (by rfl) T.g_web_in T.f_web_in.kp T.bd_web_in .nil pass0 (pa_cons (pv 1) pa_nil))) (pss_cons (ps_if (pt_cmpR op_isU (pv 2) pe_non (nomark _)) (pss_cons ps_never pss_nil) pss_nil) (pss_cons (ps_fld (pv 0) (pv 1) rfl) (pss_cons (ps_fld (pv 0) (pv 2) rfl) (pss_cons (ps_fld (pv 0) (pe_callTy (call_tupleK (K := K) rfl) (by rfl) T.b_tuple bb_tuple (pa_cons (pe_lc (own := [("name", 3), ("sources", 4)]) (g := gTup K 2 (gCons (gName 3) (gCons (gName 4) gNil))) (tt := tYes) (by rfl) nd (pi_anyK (K := K) rfl (pv 2)) (blkOk_by (own := [("name", 3), ("sources", 4)]) (N := N_Web___init__) (sc := defScope s_Web___init__) (by decide +kernel)) (fun _ _ _ _ _ => pg_tupK (K := K) rfl (by rfl) (pgs_cons (pg_name (i := 3) nd rfl (Or.inl rfl)) (pgs_cons (pg_name (i := 4) nd rfl (Or.inl rfl)) pgs_nil))) (fun _ _ _ _ _ => pts_nil) (fun _ _ _ _ _ => (pv 3))) pa_nil)) rfl) (pss_cons (ps_fld (pv 0) (pe_callTy (call_tupF (K := K) rfl) (by rfl) T.b_tuple bb_tuple (pa_cons (pe_lc2 (own := [("name", 3), ("sources", 4), ("source", 5)]) (vs1 := [5]) (g := gTup K 2 (gCons (gName 3) (gCons (gName 4) gNil))) (g1 := gName 5) (by rfl) nd (pi_anyK (K := K) rfl (pv 2)) (blkOk_by (own := [("name", 3), ("sources", 4), ("source", 5)]) (N := N_Web___init__) (sc := defScope s_Web___init__) (by decide +kernel)) (by decide) (fun _ _ _ _ _ => pg_tupK (K := K) rfl (by rfl) (pgs_cons (pg_name (i := 3) nd rfl (Or.inl rfl)) (pgs_cons (pg_name (i := 4) nd rfl (Or.inl rfl)) pgs_nil))) (fun _ _ _ _ _ => pts_nil) (fun _ _ _ _ _ => (pi_anyK (K := K) rfl (pv 4))) (fun _ _ _ _ _ => pg_name (i := 5) nd rfl (Or.inl rfl)) (fun _ _ _ _ _ => pts_nil) (fun _ _ _ _ _ => (pe_tup (pa_cons (pv 5) (pa_cons (pv 3) pa_nil))))) pa_nil)) rfl) (pss_cons (ps_fld (pv 0) (pe_call (ok_rows_in T) (hr.mono (by decide)) (by rfl) T.g_rows_in T.f_rows_in.kp T.bd_rows_in .nil pass0 (pa_cons (pe_fldK (K := K) rfl (pv 0)) pa_nil)) rfl) pss_nil))))))), ?_⟩
        refine webInit_reads (found := found) (heads := heads) (prs := ps) (rows := rows) T.cl_Web T.n_Web_written T.n_Web_rows T.n_Web_heads T.n_Web_pairs T.n_Web_zigzag_rows sB M rt ?_ ?_ ?_ ?_ e6 k
        · rw [← e1]; exact (eo_call (ea_cons (eo_var rfl rt) ea_nil))
        · intro vf B1 H1 sQ rf
          have rt := rt.kp (Kp.of sQ)
          rw [← e2]; exact (et_test (eo_op2 rv_is (eo_var rfl rf) eo_non))
        · intro vf B1 H1 sQ rf
          have rt := rt.kp (Kp.of sQ)
          rw [← e4]; exact (eo_cb' rc_tuple (ea_cons (eo_lc2n (ei_any (eo_var rfl rf)) (fun _ _ => rfl) (fun u4 u7 v5 v8 B2 H3 g1 r6 r9 => et_yes) (fun u4 u7 v5 v8 B2 H3 g1 r6 r9 => (eo_var rfl r6))) ea_nil))
        · intro vf B1 H1 sQ rf
          have rt := rt.kp (Kp.of sQ)
          rw [← e5]; exact (eo_cb' rc_tpd (ea_cons (eo_lc2t (p := fun u13 u16 => (some true)) (ys := fun u13 u16 => (iterO U.iter (some u16))) (p1 := (fun u13 u16 u19 => (some true))) (f := (fun u13 u16 u19 => (tupO (consO (some u19) (consO (some u13) (some [])))))) (ei_any (eo_var rfl rf)) (fun _ _ => rfl) (fun _ _ _ => rfl) (fun u13 u16 v14 v17 B11 H12 g10 r15 r18 => et_yes) (fun u13 u16 v14 v17 B11 H12 g10 r15 r18 => (ei_any (eo_var rfl r18))) (fun u13 u16 v14 v17 u19 v20 B11 H12 g10 r15 r18 r21 => et_yes) (fun u13 u16 v14 v17 u19 v20 B11 H12 g10 r15 r18 r21 => (eo_tup (ea_cons (eo_var rfl r21) (ea_cons (eo_var rfl r15) ea_nil))))) ea_nil))
      · cases hM
/-! check_web -/
abbrev s_check_web : Stmt := top 20
abbrev N_check_web : List Str := ["web"]
theorem sc_check_web : FnScope N_check_web ["web"] (defScope s_check_web) := ⟨rfl, rfl, rfl, by decide +kernel, rfl, by decide +kernel, by decide +kernel⟩
def m_check_web (p0 : U) : Option U := (ifO (notO (testO (op1 (fun x => (U.tyk 0 x).map U.bl) (some p0)))) none (some U.non))
theorem ok_check_web (T : Tx w K mg a d) : FnOk P w K mg base CX0 1 (a 20) (d 20) ["web"] (spU (a1 m_check_web)) := by
  refine T.f_check_web.ok sc_check_web (fun vs H Q E h => ?_) (fun cdv A outer s H vs Q E hr h => ?_)
  · obtain ⟨B, p0, vp0, r, rfl, _⟩ := sp1 h
    rfl
  · obtain ⟨B, p0, vp0, r, rfl, sB, rp0, hM, k⟩ := sp1 h
    have nd := sc_check_web.nd
    refine ⟨_, (pss_cons (ps_if (pt_not (pt_val (pe_callB (call_isiO (K := K) rfl) (by rfl) T.b_isinstance bb_isinstance (pa_cons (pv 0) (pa_cons (pe_glob (v := .ref (CTab.ct 0)) (by rfl) T.g_Web rfl) pa_nil))))) (pss_cons ps_never pss_nil) pss_nil) pss_nil), ?_⟩
    exact (q_if sB (et_not (et_B (eo_isOwn T.oc_Web (eo_var rfl rp0)))) hM (fun e7 h3 B1 H2 g9 => (nomatch h3)) (fun e8 h6 B4 H5 g10 => (q_fall h6 ((Go.refl sB).trans g10) k)))
/-! check_copy -/
abbrev s_check_copy : Stmt := top 21
abbrev N_check_copy : List Str := ["web", "copy"]
theorem sc_check_copy : FnScope N_check_copy ["web", "copy"] (defScope s_check_copy) := ⟨rfl, rfl, rfl, by decide +kernel, rfl, by decide +kernel, by decide +kernel⟩
def m_check_copy (p0 : U) (p1 : U) : Option U := (ifO (orO (notO (testO (isO isStrB (some p1)))) (testO (op2 notInV2 (some p1) (op1 (fldV 0 "heads") (some p0))))) none (some U.non))
theorem ok_check_copy (T : Tx w K mg a d) : FnOk P w K mg base CX0 1 (a 21) (d 21) ["web", "copy"] (spU (a2 m_check_copy)) := by
  refine T.f_check_copy.ok sc_check_copy (fun vs H Q E h => ?_) (fun cdv A outer s H vs Q E hr h => ?_)
  · obtain ⟨B, p0, p1, vp0, vp1, r, rfl, _⟩ := sp2 h
    rfl
  · obtain ⟨B, p0, p1, vp0, vp1, r, rfl, sB, rp0, rp1, hM, k⟩ := sp2 h
    have nd := sc_check_copy.nd
    refine ⟨_, (pss_cons (ps_if (PW.pt (pw_or (pt_not (pt_val (pe_callB (call_isiKK (K := K) rfl) (by rfl) T.b_isinstance bb_isinstance (pa_cons (pv 1) (pa_cons (pe_bltn (v := .ty "str") (by rfl) T.b_str bb_str rfl) pa_nil))))) (pw_or1 (pt_cmpR (op_notInA hr.units) (pv 1) (pe_fldK (K := K) rfl (pv 0)) (by rfl))))) (pss_cons ps_never pss_nil) pss_nil) pss_nil), ?_⟩
    exact (q_if sB (et_or (et_not (et_B (eo_isStr (eo_var rfl rp1)))) (et_test (eo_op2 rv_notIn (eo_var rfl rp1) (eo_fld T.cl_Web T.n_Web_heads (eo_var rfl rp0))))) hM (fun e7 h3 B1 H2 g9 => (nomatch h3)) (fun e8 h6 B4 H5 g10 => (q_fall h6 ((Go.refl sB).trans g10) k)))
/-! Web.text -/
abbrev s_Web_text : Stmt := inClass (top 19) 1
abbrev N_Web_text : List Str := ["self"]
theorem sc_Web_text : FnScope N_Web_text ["self"] (defScope s_Web_text) := ⟨rfl, rfl, rfl, by decide +kernel, rfl, by decide +kernel, by decide +kernel⟩
def m_Web_text (p0 : U) : Option U := (op1 (fldV 0 "written") (some p0))
theorem ok_Web_text (T : Tx w K mg a d) : FnOk P w K mg base CX0 1 (a 1001) (d 1001) ["self"] (spU (a1 m_Web_text)) := by
  refine T.f_Web_text.ok sc_Web_text (fun vs H Q E h => ?_) (fun cdv A outer s H vs Q E hr h => ?_)
  · obtain ⟨B, p0, vp0, r, rfl, _⟩ := sp1 h
    rfl
  · obtain ⟨B, p0, vp0, r, rfl, sB, rp0, hM, k⟩ := sp1 h
    have nd := sc_Web_text.nd
    refine ⟨_, (pss_cons (ps_ret (pe_fldK (K := K) rfl (pv 0))) pss_nil), ?_⟩
    exact (q_ret (eo_fld T.cl_Web T.n_Web_written (eo_var rfl rp0)) hM (Go.refl sB) k)
/-! Web.names -/
abbrev s_Web_names : Stmt := inClass (top 19) 2
abbrev N_Web_names : List Str := ["self"]
theorem sc_Web_names : FnScope N_Web_names ["self"] (defScope s_Web_names) := ⟨rfl, rfl, rfl, by decide +kernel, rfl, by decide +kernel, by decide +kernel⟩
def m_Web_names (p0 : U) : Option U := (op1 (fldV 0 "heads") (some p0))
theorem ok_Web_names (T : Tx w K mg a d) : FnOk P w K mg base CX0 1 (a 1002) (d 1002) ["self"] (spU (a1 m_Web_names)) := by
  refine T.f_Web_names.ok sc_Web_names (fun vs H Q E h => ?_) (fun cdv A outer s H vs Q E hr h => ?_)
  · obtain ⟨B, p0, vp0, r, rfl, _⟩ := sp1 h
    rfl
  · obtain ⟨B, p0, vp0, r, rfl, sB, rp0, hM, k⟩ := sp1 h
    have nd := sc_Web_names.nd
    refine ⟨_, (pss_cons (ps_ret (pe_fldK (K := K) rfl (pv 0))) pss_nil), ?_⟩
    exact (q_ret (eo_fld T.cl_Web T.n_Web_heads (eo_var rfl rp0)) hM (Go.refl sB) k)
/-! Web.lines -/
abbrev s_Web_lines : Stmt := inClass (top 19) 3
abbrev N_Web_lines : List Str := ["self"]
theorem sc_Web_lines : FnScope N_Web_lines ["self"] (defScope s_Web_lines) := ⟨rfl, rfl, rfl, by decide +kernel, rfl, by decide +kernel, by decide +kernel⟩
def m_Web_lines (p0 : U) : Option U := (op1 (fldV 0 "pairs") (some p0))
theorem ok_Web_lines (T : Tx w K mg a d) : FnOk P w K mg base CX0 1 (a 1003) (d 1003) ["self"] (spU (a1 m_Web_lines)) := by
  refine T.f_Web_lines.ok sc_Web_lines (fun vs H Q E h => ?_) (fun cdv A outer s H vs Q E hr h => ?_)
  · obtain ⟨B, p0, vp0, r, rfl, _⟩ := sp1 h
    rfl
  · obtain ⟨B, p0, vp0, r, rfl, sB, rp0, hM, k⟩ := sp1 h
    have nd := sc_Web_lines.nd
    refine ⟨_, (pss_cons (ps_ret (pe_fldK (K := K) rfl (pv 0))) pss_nil), ?_⟩
    exact (q_ret (eo_fld T.cl_Web T.n_Web_pairs (eo_var rfl rp0)) hM (Go.refl sB) k)
/-! Web.sources -/
abbrev s_Web_sources : Stmt := inClass (top 19) 5
abbrev N_Web_sources : List Str := ["self", "copy", "source", "name"]
theorem sc_Web_sources : FnScope N_Web_sources ["self", "copy"] (defScope s_Web_sources) := ⟨rfl, rfl, rfl, by decide +kernel, rfl, by decide +kernel, by decide +kernel⟩
def m_Web_sources (p0 : U) (p1 : U) : Option U := ((callO (a2 m_check_copy) (consO (some p0) (consO (some p1) (some [])))).bind fun _ => (callO (c1 tupleV) (consO (compO2 (fun u11 u14 => (testO (op2 eqV2 (some u14) (some p1)))) (fun u11 u14 => (some u11)) (iterO U.iter (op1 (fldV 0 "pairs") (some p0)))) (some []))))
theorem ok_Web_sources (T : Tx w K mg a d) : FnOk P w K mg base CX0 2 (a 1005) (d 1005) ["self", "copy"] (spU (a2 m_Web_sources)) := by
  refine T.f_Web_sources.ok sc_Web_sources (fun vs H Q E h => ?_) (fun cdv A outer s H vs Q E hr h => ?_)
  · obtain ⟨B, p0, p1, vp0, vp1, r, rfl, _⟩ := sp2 h
    rfl
  · obtain ⟨B, p0, p1, vp0, vp1, r, rfl, sB, rp0, rp1, hM, k⟩ := sp2 h
    have nd := sc_Web_sources.nd
    refine ⟨_, (pss_cons (ps_expr (pe_call (ok_check_copy T) (hr.mono (by decide)) (by rfl) T.g_check_copy T.f_check_copy.kp T.bd_check_copy .nil pass0 (pa_cons (pv 0) (pa_cons (pv 1) pa_nil)))) (pss_cons (ps_ret (pe_callTy (call_tupleK (K := K) rfl) (by rfl) T.b_tuple bb_tuple (pa_cons (pe_lc (own := [("source", 2), ("name", 3)]) (g := gTup K 2 (gCons (gName 2) (gCons (gName 3) gNil))) (by rfl) nd (pi_anyK (K := K) rfl (pe_fldK (K := K) rfl (pv 0))) (blkOk_by (own := [("source", 2), ("name", 3)]) (N := N_Web_sources) (sc := defScope s_Web_sources) (by decide +kernel)) (fun _ _ _ _ _ => pg_tupK (K := K) rfl (by rfl) (pgs_cons (pg_name (i := 2) nd rfl (Or.inl rfl)) (pgs_cons (pg_name (i := 3) nd rfl (Or.inl rfl)) pgs_nil))) (fun _ _ _ _ _ => (pts_one (pt_cmpR (op_eqU hr.units) (pv 3) (pv 1) (nomark _)))) (fun _ _ _ _ _ => (pv 2))) pa_nil))) pss_nil)), ?_⟩
    exact (q_expr sB (eo_call (ea_cons (eo_var rfl rp0) (ea_cons (eo_var rfl rp1) ea_nil))) hM fun x1 v2 B3 H4 g5 r6 h7 => (q_ret (eo_cb' rc_tuple (ea_cons (eo_lc2n (ei_any (eo_fld T.cl_Web T.n_Web_pairs (eo_var rfl (rp0.up g5)))) (fun _ _ => rfl) (fun u11 u14 v12 v15 B9 H10 g8 r13 r16 => (et_test (eo_op2 rv_eq (eo_var rfl r16) (eo_var rfl ((rp1.up g5).upA g8))))) (fun u11 u14 v12 v15 B9 H10 g8 r13 r16 => (eo_var rfl r13))) ea_nil)) h7 ((Go.refl sB).trans g5) k))
/-! Web.copies -/
abbrev s_Web_copies : Stmt := inClass (top 19) 6
abbrev N_Web_copies : List Str := ["self", "source", "one", "name"]
theorem sc_Web_copies : FnScope N_Web_copies ["self", "source"] (defScope s_Web_copies) := ⟨rfl, rfl, rfl, by decide +kernel, rfl, by decide +kernel, by decide +kernel⟩
def m_Web_copies (p0 : U) (p1 : U) : Option U := ((callO (a2 m_check_copy) (consO (some p0) (consO (some p1) (some [])))).bind fun _ => (callO (c1 tupleV) (consO (compO2 (fun u11 u14 => (testO (op2 eqV2 (some u11) (some p1)))) (fun u11 u14 => (some u14)) (iterO U.iter (op1 (fldV 0 "pairs") (some p0)))) (some []))))
theorem ok_Web_copies (T : Tx w K mg a d) : FnOk P w K mg base CX0 2 (a 1006) (d 1006) ["self", "source"] (spU (a2 m_Web_copies)) := by
  refine T.f_Web_copies.ok sc_Web_copies (fun vs H Q E h => ?_) (fun cdv A outer s H vs Q E hr h => ?_)
  · obtain ⟨B, p0, p1, vp0, vp1, r, rfl, _⟩ := sp2 h
    rfl
  · obtain ⟨B, p0, p1, vp0, vp1, r, rfl, sB, rp0, rp1, hM, k⟩ := sp2 h
    have nd := sc_Web_copies.nd
    refine ⟨_, (pss_cons (ps_expr (pe_call (ok_check_copy T) (hr.mono (by decide)) (by rfl) T.g_check_copy T.f_check_copy.kp T.bd_check_copy .nil pass0 (pa_cons (pv 0) (pa_cons (pv 1) pa_nil)))) (pss_cons (ps_ret (pe_callTy (call_tupleK (K := K) rfl) (by rfl) T.b_tuple bb_tuple (pa_cons (pe_lc (own := [("one", 2), ("name", 3)]) (g := gTup K 2 (gCons (gName 2) (gCons (gName 3) gNil))) (by rfl) nd (pi_anyK (K := K) rfl (pe_fldK (K := K) rfl (pv 0))) (blkOk_by (own := [("one", 2), ("name", 3)]) (N := N_Web_copies) (sc := defScope s_Web_copies) (by decide +kernel)) (fun _ _ _ _ _ => pg_tupK (K := K) rfl (by rfl) (pgs_cons (pg_name (i := 2) nd rfl (Or.inl rfl)) (pgs_cons (pg_name (i := 3) nd rfl (Or.inl rfl)) pgs_nil))) (fun _ _ _ _ _ => (pts_one (pt_cmpR (op_eqU hr.units) (pv 2) (pv 1) (nomark _)))) (fun _ _ _ _ _ => (pv 3))) pa_nil))) pss_nil)), ?_⟩
    exact (q_expr sB (eo_call (ea_cons (eo_var rfl rp0) (ea_cons (eo_var rfl rp1) ea_nil))) hM fun x1 v2 B3 H4 g5 r6 h7 => (q_ret (eo_cb' rc_tuple (ea_cons (eo_lc2n (ei_any (eo_fld T.cl_Web T.n_Web_pairs (eo_var rfl (rp0.up g5)))) (fun _ _ => rfl) (fun u11 u14 v12 v15 B9 H10 g8 r13 r16 => (et_test (eo_op2 rv_eq (eo_var rfl r13) (eo_var rfl ((rp1.up g5).upA g8))))) (fun u11 u14 v12 v15 B9 H10 g8 r13 r16 => (eo_var rfl r16))) ea_nil)) h7 ((Go.refl sB).trans g5) k))
/-! Web.__str__ -/
abbrev s_Web___str__ : Stmt := inClass (top 19) 9
abbrev N_Web___str__ : List Str := ["self"]
theorem sc_Web___str__ : FnScope N_Web___str__ ["self"] (defScope s_Web___str__) := ⟨rfl, rfl, rfl, by decide +kernel, rfl, by decide +kernel, by decide +kernel⟩
def m_Web___str__ (p0 : U) : Option U := (callO (c1 strBV) (consO (op1 (fldV 0 "written") (some p0)) (some [])))
theorem ok_Web___str__ (T : Tx w K mg a d) : FnOk P w K mg base CX0 1 (a 1009) (d 1009) ["self"] (spU (a1 m_Web___str__)) := by
  refine T.f_Web___str__.ok sc_Web___str__ (fun vs H Q E h => ?_) (fun cdv A outer s H vs Q E hr h => ?_)
  · obtain ⟨B, p0, vp0, r, rfl, _⟩ := sp1 h
    rfl
  · obtain ⟨B, p0, vp0, r, rfl, sB, rp0, hM, k⟩ := sp1 h
    have nd := sc_Web___str__.nd
    refine ⟨_, (pss_cons (ps_ret (pe_callTy call_strB (by rfl) T.b_str bb_str (pa_cons (pe_fldK (K := K) rfl (pv 0)) pa_nil))) pss_nil), ?_⟩
    exact (q_ret (eo_cb' rc_strB (ea_cons (eo_fld T.cl_Web T.n_Web_written (eo_var rfl rp0)) ea_nil)) hM (Go.refl sB) k)
/-! Web.__repr__ -/
abbrev s_Web___repr__ : Stmt := inClass (top 19) 10
abbrev N_Web___repr__ : List Str := ["self"]
theorem sc_Web___repr__ : FnScope N_Web___repr__ ["self"] (defScope s_Web___repr__) := ⟨rfl, rfl, rfl, by decide +kernel, rfl, by decide +kernel, by decide +kernel⟩
def m_Web___repr__ (p0 : U) : Option U := (joinO ((some (U.str "Web of ")) :: ((op1 fmtV (callO lenV (consO (op1 (fldV 0 "heads") (some p0)) (some [])))) :: ((some (U.str " copies")) :: []))) Str.empty)
theorem ok_Web___repr__ (T : Tx w K mg a d) : FnOk P w K mg base CX0 1 (a 1010) (d 1010) ["self"] (spU (a1 m_Web___repr__)) := by
  refine T.f_Web___repr__.ok sc_Web___repr__ (fun vs H Q E h => ?_) (fun cdv A outer s H vs Q E hr h => ?_)
  · obtain ⟨B, p0, vp0, r, rfl, _⟩ := sp1 h
    rfl
  · obtain ⟨B, p0, vp0, r, rfl, sB, rp0, hM, k⟩ := sp1 h
    have nd := sc_Web___repr__.nd
    refine ⟨_, (pss_cons (ps_ret (pe_joined (PJ.cons pe_str (PJ.cons (pe_fmt (pe_callB (call_lenK (K := K) rfl) (by rfl) T.b_len bb_len (pa_cons (pe_fldK (K := K) rfl (pv 0)) pa_nil))) (PJ.cons pe_str PJ.nil))))) pss_nil), ?_⟩
    exact (q_ret (eo_joined (Jo.cons eo_str (Jo.cons (eo_fmt (eo_cb' rc_len (ea_cons (eo_fld T.cl_Web T.n_Web_heads (eo_var rfl rp0)) ea_nil))) (Jo.cons eo_str Jo.nil)))) hM (Go.refl sB) k)
/-! Web.__eq__ -/
abbrev s_Web___eq__ : Stmt := inClass (top 19) 11
abbrev N_Web___eq__ : List Str := ["self", "other"]
theorem sc_Web___eq__ : FnScope N_Web___eq__ ["self", "other"] (defScope s_Web___eq__) := ⟨rfl, rfl, rfl, by decide +kernel, rfl, by decide +kernel, by decide +kernel⟩
def m_Web___eq__ (p0 : U) (p1 : U) : Option U := (andV (op1 (fun x => (U.tyk 0 x).map U.bl) (some p1)) (op2 eqV2 (op1 (fldV 0 "written") (some p0)) (op1 (propV 0 (a1 m_Web_text)) (some p1))))
theorem ok_Web___eq__ (T : Tx w K mg a d) : FnOk P w K mg base CX0 3 (a 1011) (d 1011) ["self", "other"] (spU (a2 m_Web___eq__)) := by
  refine T.f_Web___eq__.ok sc_Web___eq__ (fun vs H Q E h => ?_) (fun cdv A outer s H vs Q E hr h => ?_)
  · obtain ⟨B, p0, p1, vp0, vp1, r, rfl, _⟩ := sp2 h
    rfl
  · obtain ⟨B, p0, p1, vp0, vp1, r, rfl, sB, rp0, rp1, hM, k⟩ := sp2 h
    have nd := sc_Web___eq__.nd
    refine ⟨_, (pss_cons (ps_ret (pe_and (pe_callB (call_isiO (K := K) rfl) (by rfl) T.b_isinstance bb_isinstance (pa_cons (pv 1) (pa_cons (pe_glob (v := .ref (CTab.ct 0)) (by rfl) T.g_Web rfl) pa_nil))) (pe_one (pe_cmpR (op_eqU hr.units) (pe_fldK (K := K) rfl (pv 0)) (pe_propK (K := K) rfl (pv 1) T.cl_Web T.pr_Web_text.choose_spec (ok_Web_text T) (hr.mono (by decide)) T.bd_Web_text pass0) (nomark _))))) pss_nil), ?_⟩
    exact (q_ret (eo_and (eo_isOwn T.oc_Web (eo_var rfl rp1)) (eo_op2 rv_eq (eo_fld T.cl_Web T.n_Web_written (eo_var rfl rp0)) (eo_prop (eo_var rfl rp1)))) hM (Go.refl sB) k)
/-! check_line -/
abbrev s_check_line : Stmt := top 22
abbrev N_check_line : List Str := ["web", "source", "copy"]
theorem sc_check_line : FnScope N_check_line ["web", "source", "copy"] (defScope s_check_line) := ⟨rfl, rfl, rfl, by decide +kernel, rfl, by decide +kernel, by decide +kernel⟩
def m_check_line (p0 : U) (p1 : U) (p2 : U) : Option U := ((callO (a2 m_check_copy) (consO (some p0) (consO (some p1) (some [])))).bind fun _ => ((callO (a2 m_check_copy) (consO (some p0) (consO (some p2) (some [])))).bind fun _ => (ifO (testO (op2 notInV2 (tupO (consO (some p1) (consO (some p2) (some [])))) (op1 (fldV 0 "pairs") (some p0)))) none (some U.non))))
theorem ok_check_line (T : Tx w K mg a d) : FnOk P w K mg base CX0 2 (a 22) (d 22) ["web", "source", "copy"] (spU (a3 m_check_line)) := by
  refine T.f_check_line.ok sc_check_line (fun vs H Q E h => ?_) (fun cdv A outer s H vs Q E hr h => ?_)
  · obtain ⟨B, p0, p1, p2, vp0, vp1, vp2, r, rfl, _⟩ := sp3 h
    rfl
  · obtain ⟨B, p0, p1, p2, vp0, vp1, vp2, r, rfl, sB, rp0, rp1, rp2, hM, k⟩ := sp3 h
    have nd := sc_check_line.nd
    refine ⟨_, (pss_cons (ps_expr (pe_call (ok_check_copy T) (hr.mono (by decide)) (by rfl) T.g_check_copy T.f_check_copy.kp T.bd_check_copy .nil pass0 (pa_cons (pv 0) (pa_cons (pv 1) pa_nil)))) (pss_cons (ps_expr (pe_call (ok_check_copy T) (hr.mono (by decide)) (by rfl) T.g_check_copy T.f_check_copy.kp T.bd_check_copy .nil pass0 (pa_cons (pv 0) (pa_cons (pv 2) pa_nil)))) (pss_cons (ps_if (pt_cmpR (op_notInA hr.units) (pe_tup (pa_cons (pv 1) (pa_cons (pv 2) pa_nil))) (pe_fldK (K := K) rfl (pv 0)) (by rfl)) (pss_cons ps_never pss_nil) pss_nil) pss_nil))), ?_⟩
    exact (q_expr sB (eo_call (ea_cons (eo_var rfl rp0) (ea_cons (eo_var rfl rp1) ea_nil))) hM fun x1 v2 B3 H4 g5 r6 h7 => (q_expr g5.bh (eo_call (ea_cons (eo_var rfl (rp0.up g5)) (ea_cons (eo_var rfl (rp2.up g5)) ea_nil))) h7 fun x8 v9 B10 H11 g12 r13 h14 => (q_if g12.bh (et_test (eo_op2 rv_notIn (eo_tup (ea_cons (eo_var rfl ((rp1.up g5).up g12)) (ea_cons (eo_var rfl ((rp2.up g5).up g12)) ea_nil))) (eo_fld T.cl_Web T.n_Web_pairs (eo_var rfl ((rp0.up g5).up g12))))) h14 (fun e21 h17 B15 H16 g23 => (nomatch h17)) (fun e22 h20 B18 H19 g24 => (q_fall h20 ((((Go.refl sB).trans g5).trans g12).trans g24) k)))))
/-! all_rows -/
abbrev s_all_rows : Stmt := top 24
abbrev N_all_rows : List Str := ["web"]
theorem sc_all_rows : FnScope N_all_rows ["web"] (defScope s_all_rows) := ⟨rfl, rfl, rfl, by decide +kernel, rfl, by decide +kernel, by decide +kernel⟩
def m_all_rows (p0 : U) : Option U := (op1 (fldV 0 "zigzag_rows") (some p0))
theorem ok_all_rows (T : Tx w K mg a d) : FnOk P w K mg base CX0 1 (a 24) (d 24) ["web"] (spU (a1 m_all_rows)) := by
  refine T.f_all_rows.ok sc_all_rows (fun vs H Q E h => ?_) (fun cdv A outer s H vs Q E hr h => ?_)
  · obtain ⟨B, p0, vp0, r, rfl, _⟩ := sp1 h
    rfl
  · obtain ⟨B, p0, vp0, r, rfl, sB, rp0, hM, k⟩ := sp1 h
    have nd := sc_all_rows.nd
    refine ⟨_, (pss_cons (ps_ret (pe_fldK (K := K) rfl (pv 0))) pss_nil), ?_⟩
    exact (q_ret (eo_fld T.cl_Web T.n_Web_zigzag_rows (eo_var rfl rp0)) hM (Go.refl sB) k)
/-! zigzags -/
abbrev s_zigzags : Stmt := top 25
abbrev N_zigzags : List Str := ["web"]
theorem sc_zigzags : FnScope N_zigzags ["web"] (defScope s_zigzags) := ⟨rfl, rfl, rfl, by decide +kernel, rfl, by decide +kernel, by decide +kernel⟩
def m_zigzags (p0 : U) : Option U := ((callO (a1 m_check_web) (consO (some p0) (some []))).bind fun _ => (callO (a1 m_all_rows) (consO (some p0) (some []))))
theorem ok_zigzags (T : Tx w K mg a d) : FnOk P w K mg base CX0 2 (a 25) (d 25) ["web"] (spU (a1 m_zigzags)) := by
  refine T.f_zigzags.ok sc_zigzags (fun vs H Q E h => ?_) (fun cdv A outer s H vs Q E hr h => ?_)
  · obtain ⟨B, p0, vp0, r, rfl, _⟩ := sp1 h
    rfl
  · obtain ⟨B, p0, vp0, r, rfl, sB, rp0, hM, k⟩ := sp1 h
    have nd := sc_zigzags.nd
    refine ⟨_, (pss_cons (ps_expr (pe_call (ok_check_web T) (hr.mono (by decide)) (by rfl) T.g_check_web T.f_check_web.kp T.bd_check_web .nil pass0 (pa_cons (pv 0) pa_nil))) (pss_cons (ps_ret (pe_call (ok_all_rows T) (hr.mono (by decide)) (by rfl) T.g_all_rows T.f_all_rows.kp T.bd_all_rows .nil pass0 (pa_cons (pv 0) pa_nil))) pss_nil)), ?_⟩
    exact (q_expr sB (eo_call (ea_cons (eo_var rfl rp0) ea_nil)) hM fun x1 v2 B3 H4 g5 r6 h7 => (q_ret (eo_call (ea_cons (eo_var rfl (rp0.up g5)) ea_nil)) h7 ((Go.refl sB).trans g5) k))
/-! zigzag_of -/
abbrev s_zigzag_of : Stmt := top 26
abbrev N_zigzag_of : List Str := ["web", "source", "copy", "row"]
theorem sc_zigzag_of : FnScope N_zigzag_of ["web", "source", "copy"] (defScope s_zigzag_of) := ⟨rfl, rfl, rfl, by decide +kernel, rfl, by decide +kernel, by decide +kernel⟩
def m_zigzag_of (p0 : U) (p1 : U) (p2 : U) : Option U := ((callO (a1 m_check_web) (consO (some p0) (some []))).bind fun _ => ((callO (a3 m_check_line) (consO (some p0) (consO (some p1) (consO (some p2) (some []))))).bind fun _ => (op2 lidxV (compO (fun u18 => (some true)) (fun u18 => (op2 inV2 (tupO (consO (some p1) (consO (some p2) (some [])))) (some u18))) (iterO U.iter (callO (a1 m_all_rows) (consO (some p0) (some []))))) (some (U.bl true)))))
theorem ok_zigzag_of (T : Tx w K mg a d) : FnOk P w K mg base CX0 3 (a 26) (d 26) ["web", "source", "copy"] (spU (a3 m_zigzag_of)) := by
  refine T.f_zigzag_of.ok sc_zigzag_of (fun vs H Q E h => ?_) (fun cdv A outer s H vs Q E hr h => ?_)
  · obtain ⟨B, p0, p1, p2, vp0, vp1, vp2, r, rfl, _⟩ := sp3 h
    rfl
  · obtain ⟨B, p0, p1, p2, vp0, vp1, vp2, r, rfl, sB, rp0, rp1, rp2, hM, k⟩ := sp3 h
    have nd := sc_zigzag_of.nd
    refine ⟨_, (pss_cons (ps_expr (pe_call (ok_check_web T) (hr.mono (by decide)) (by rfl) T.g_check_web T.f_check_web.kp T.bd_check_web .nil pass0 (pa_cons (pv 0) pa_nil))) (pss_cons (ps_expr (pe_call (ok_check_line T) (hr.mono (by decide)) (by rfl) T.g_check_line T.f_check_line.kp T.bd_check_line .nil pass0 (pa_cons (pv 0) (pa_cons (pv 1) (pa_cons (pv 2) pa_nil))))) (pss_cons (ps_ret (pe_lidx (K := K) rfl hr.units (pe_lc (own := [("row", 3)]) (g := gName 3) (tt := tYes) (by rfl) nd (pi_anyK (K := K) rfl (pe_call (ok_all_rows T) (hr.mono (by decide)) (by rfl) T.g_all_rows T.f_all_rows.kp T.bd_all_rows .nil pass0 (pa_cons (pv 0) pa_nil))) (blkOk_by (own := [("row", 3)]) (N := N_zigzag_of) (sc := defScope s_zigzag_of) (by decide +kernel)) (fun _ _ _ _ _ => pg_name (i := 3) nd rfl (Or.inl rfl)) (fun _ _ _ _ _ => pts_nil) (fun _ _ _ _ _ => (pe_cmpR (op_inA hr.units) (pe_tup (pa_cons (pv 1) (pa_cons (pv 2) pa_nil))) (pv 3) (by rfl)))) (pa_cons pe_bl pa_nil))) pss_nil))), ?_⟩
    exact (q_expr sB (eo_call (ea_cons (eo_var rfl rp0) ea_nil)) hM fun x1 v2 B3 H4 g5 r6 h7 => (q_expr g5.bh (eo_call (ea_cons (eo_var rfl (rp0.up g5)) (ea_cons (eo_var rfl (rp1.up g5)) (ea_cons (eo_var rfl (rp2.up g5)) ea_nil)))) h7 fun x8 v9 B10 H11 g12 r13 h14 => (q_ret (eo_lidx (eo_lc (ei_any (eo_call (ea_cons (eo_var rfl ((rp0.up g5).up g12)) ea_nil))) (fun _ => rfl) (fun u18 v19 B16 H17 g15 r20 => et_yes) (fun u18 v19 B16 H17 g15 r20 => (eo_op2 rv_in (eo_tup (ea_cons (eo_var rfl (((rp1.up g5).up g12).upA g15)) (ea_cons (eo_var rfl (((rp2.up g5).up g12).upA g15)) ea_nil))) (eo_var rfl r20)))) eo_bl) h14 (((Go.refl sB).trans g5).trans g12) k)))
/-! _law_purse -/
abbrev s_law_purse : Stmt := top 28
abbrev N_law_purse : List Str := ["_law_script", "_law_spot", "_law_cell", "_law_seed", "_law_one"]
def m_law_purse_l1 (x1 : U) (kL19 : U → SM U) : List U → U → SM U
  | [], x68 => kL19 x68
  | u39 :: l40, x51 => (bindS (pureS (op2 modV (callO (c1 intV) (consO (op2 addV (op2 addV (op2 mulV (some x51) (some (U.int 40692))) (op2 modV (callO (c1 intV) (consO (some u39) (some []))) (some (U.int 2147483647)))) (some (U.int 101))) (some []))) (some (U.int 2147483647)))) fun x56 => (m_law_purse_l1 x1 kL19 l40 (x56)))
theorem sc_law_purse : FnScope N_law_purse ["_law_script", "_law_spot"] (defScope s_law_purse) := ⟨rfl, rfl, rfl, by decide +kernel, rfl, by decide +kernel, by decide +kernel⟩
def m_law_purseS (p0 : U) (p1 : U) : SM U := (bindS (pureS (ifO (testO (op2 ltV (some p1) (callO lenV (consO (some p0) (some []))))) (op2 getV (some p0) (some p1)) (op2 mulV (some (U.int 6373)) (op2 addV (some p1) (some (U.int 5)))))) fun x1 => (bindS (pureS (op2 addV (some (U.int 941)) (some p1))) fun x10 => (withK (fun x68 => (nlstS (pureS (consO (ifO (testO (op2 geV (callO (c1 absU) (consO (some x1) (some []))) (op2 powV (some (U.int 10)) (some (U.int 18))))) (callO (c1 absU) (consO (some x1) (some []))) (some (U.int 0))) (consO (some x68) (some [])))))) fun kL19 => (bindS (pureS (iterO U.iter (op2 addV (slO (some p0) (some none) (ptO (some (U.int 5)))) (lstO (consO (some x1) (some [])))))) fun xs22 => m_law_purse_l1 x1 kL19 xs22 (x10)))))
def m_law_purse (p0 : U) (p1 : U) : Option U := runS (m_law_purseS p0 p1)
theorem ok_law_purse (T : Tx w K mg a d) : FnOk P w K mg base CX0 1 (a 28) (d 28) ["_law_script", "_law_spot"] (spN (a2 m_law_purse)) := by
  refine T.f_law_purse.ok sc_law_purse (fun vs H Q E h => ?_) (fun cdv A outer s H vs Q E hr h => ?_)
  · obtain ⟨B, p0, p1, vp0, vp1, r, rfl, _⟩ := sn2 h
    rfl
  · obtain ⟨B, p0, p1, vp0, vp1, r, rfl, sB, rp0, rp1, hM, k⟩ := sn2 h
    have nd := sc_law_purse.nd
    obtain ⟨R, hM2, rfl⟩ := runS_some hM
    clear hM
    have k := fun p B2 H2 ps2 (W : Wh (bsU B H) B2 H2 ps2 R.2) n b o => k p B2 H2 W.pure n b o
    refine ⟨_, (pss_cons (ps_set (i := 2) nd rfl (Or.inl rfl) (pe_ifExp (pt_cmpR op_lt (pv 1) (pe_callB (call_lenK (K := K) rfl) (by rfl) T.b_len bb_len (pa_cons (pv 0) pa_nil)) (nomark _)) (pe_ix (ix_anyK (K := K) rfl hr.units) (pv 0) (pv 1) (fun _ _ => rfl)) (pe_op op_mulU pe_int (pe_op (op_addK (K := K) rfl) (pv 1) pe_int)))) (pss_cons (ps_set (i := 3) nd rfl (Or.inl rfl) (pe_op (op_addK (K := K) rfl) pe_int (pv 1))) (pss_cons (ps_for PassesOwn.never rfl (pi_anyK (K := K) rfl (pe_op (op_addK (K := K) rfl) (pe_slice (sl_anyK (K := K) rfl) (pv 0) po_none (po_some pe_int)) (pe_lst (pa_cons (pv 2) pa_nil)))) (pg_name (i := 4) nd rfl (Or.inl rfl)) (pss_cons (ps_set (i := 3) nd rfl (Or.inl rfl) (pe_op op_mod (pe_callTy call_int1 (by rfl) T.b_int bb_int (pa_cons (pe_op (op_addK (K := K) rfl) (pe_op (op_addK (K := K) rfl) (pe_op op_mulU (pv 3) pe_int) (pe_op op_mod (pe_callTy call_int1 (by rfl) T.b_int bb_int (pa_cons (pv 4) pa_nil)) pe_int)) pe_int) pa_nil)) pe_int)) pss_nil)) (pss_cons (ps_ret (pe_lst (pa_cons (pe_ifExp (pt_cmpR op_ge (pe_callB call_abs (by rfl) T.b_abs bb_abs (pa_cons (pv 2) pa_nil)) (pe_op op_pow pe_int pe_int) (nomark _)) (pe_callB call_abs (by rfl) T.b_abs bb_abs (pa_cons (pv 2) pa_nil)) pe_int) (pa_cons (pv 3) pa_nil)))) pss_nil)))), ?_⟩
    exact (q_asgS (wh_pure sB) (es_of (H := H) (eo_if (et_test (eo_op2 rv_lt (eo_var rfl rp1) (eo_cb' rc_len (ea_cons (eo_var rfl rp0) ea_nil)))) (eo_op2 rv_get (eo_var rfl rp0) (eo_var rfl rp1)) (eo_op2 rv_mul eo_int (eo_op2 rv_add (eo_var rfl rp1) eo_int)))) hM2 fun x1 v2 B3 H4 us7 W8 s9 r6 h5 => (q_asgS W8 (es_of (H := H) (eo_op2 rv_add eo_int (eo_var rfl (rp1.sm s9)))) h5 fun x10 v11 B12 H13 us16 W17 s18 r15 h14 => (q_withS h14 fun kL19 ekL20 h21 => q_forS W17 (eis_of (H := H) (ei_any (eo_op2 rv_add (eo_slice (eo_var rfl ((rp0.sm s9).sm s18)) ep_no (ep_of eo_int)) (eo_lst (ea_cons (eo_var rfl (r6.sm s18)) ea_nil))))) h21 fun xs22 B23 H24 us26 W27 s28 h25 => ⟨fun l29 sg30 B31 H32 => ∃ (o33 : Option V) (o34 : Option V) (x35 : U) (v36 : V) (o37 : Option V) (us38 : List U), sg30 = [o33, o34, some v2, some v36, o37] ∧ Same B23 B31 ∧ Rp B31 x35 v36 ∧ Wh (bsU B H) B31 H32 [] us38 ∧ m_law_purse_l1 x1 kL19 l29 x35 us38 = some R, ⟨_, _, x10, _, _, us26, rfl, Same.refl _, (r15.sm s28), W27, h25⟩, fun _ _ _ _ ⟨_, _, _, _, _, _, _, sX, _, WX, _⟩ => ⟨sX, WX.s⟩, fun u39 l40 v41 sg77 B42 H43 B44 H45 hR g46 r47 => (by obtain ⟨_, _, x51, v52, _, us54, rfl, s49, r53, W55, h50⟩ := hR; exact (q_asgS (W55.go g46) (es_of (H := H) (eo_op2 rv_mod (eo_cb' rc_int (ea_cons (eo_op2 rv_add (eo_op2 rv_add (eo_op2 rv_mul (eo_var rfl (r53.up g46)) eo_int) (eo_op2 rv_mod (eo_cb' rc_int (ea_cons (eo_var rfl r47) ea_nil)) eo_int)) eo_int) ea_nil)) eo_int)) h50 fun x56 v57 B58 H59 us62 W63 s64 r61 h60 => ⟨_, _, _, x56, _, _, _, rfl, ((s49.trans g46.b).trans s64), r61, W63, h60⟩)), fun sg73 B74 H75 hR => (by obtain ⟨_, _, x68, v69, _, us71, rfl, s66, r70, W72, h67⟩ := hR; have h76 : kL19 x68 us71 = some R := h67; subst ekL20; exact (q_retN W72 (en_lst (eas_of (H := H) (ea_cons (eo_if (et_test (eo_op2 rv_ge (eo_cb' rc_abs (ea_cons (eo_var rfl (((r6.sm s18).sm s28).sm s66)) ea_nil)) (eo_op2 rv_pow eo_int eo_int))) (eo_cb' rc_abs (ea_cons (eo_var rfl (((r6.sm s18).sm s28).sm s66)) ea_nil)) eo_int) (ea_cons (eo_var rfl r70) ea_nil)))) h76 k))⟩)))
/-! _law_draw -/
abbrev s_law_draw : Stmt := top 29
abbrev N_law_draw : List Str := ["_law_purse_here", "_law_many", "_law_digit"]
theorem sc_law_draw : FnScope N_law_draw ["_law_purse_here", "_law_many"] (defScope s_law_draw) := ⟨rfl, rfl, rfl, by decide +kernel, rfl, by decide +kernel, by decide +kernel⟩
def m_law_draw (p1 : U) : SM U := (ifS (testS (opS gtV (lockO 0 fun u1 => (op2 getV (some u1) (some (U.int 0)))) (pureS (some (U.int 0))))) (bindS (callS divmodU (consS (lockO 0 fun u16 => (op2 getV (some u16) (some (U.int 0)))) (consS (pureS (some p1)) (pureS (some []))))) fun u => unpS u fun x28 y19 => bindS (pureS (some (U.int 0))) fun k29 => bindS (setLS 0 k29 x28) fun _ => (pureS (some y19))) (bindS (opS modV (callS (c1 intV) (consS (opS addV (opS mulV (lockO 0 fun u30 => (op2 getV (some u30) (some (U.int 1)))) (pureS (some (U.int 45991)))) (pureS (some (U.int 40503)))) (pureS (some [])))) (pureS (some (U.int 2147483647)))) fun y39 => bindS (pureS (some (U.int 1))) fun k40 => bindS (setLS 0 k40 y39) fun _ => (opS modV (callS (c1 intV) (consS (opS fdivV (lockO 0 fun u41 => (op2 getV (some u41) (some (U.int 1)))) (pureS (some (U.int 1024)))) (pureS (some [])))) (pureS (some p1)))))
theorem ok_law_draw (T : Tx w K mg a d) : FnOk P w K mg base CX0 1 (a 29) (d 29) ["_law_purse_here", "_law_many"] (spS (b1 m_law_draw)) := by
  refine T.f_law_draw.ok sc_law_draw (fun vs H Q E h => ?_) (fun cdv A outer s H vs Q E hr h => ?_)
  · obtain ⟨B, p, u, p1, vp1, R, rfl, _⟩ := ss1 h
    rfl
  · obtain ⟨B, p, u, p1, vp1, R, rfl, sB, W, rp1, hM, k⟩ := ss1 h
    have nd := sc_law_draw.nd
    refine ⟨_, (pss_cons (ps_if (pt_cmpR op_gt (pe_lock (pe_ix (ix_anyK (K := K) rfl hr.units) (pv 0) pe_int (fun _ _ => rfl))) pe_int (nomark _)) (pss_cons (ps_asg (pe_callB call_divmod (by rfl) T.b_divmod bb_divmod (pa_cons (pe_lock (pe_ix (ix_anyK (K := K) rfl hr.units) (pv 0) pe_int (fun _ _ => rfl))) (pa_cons (pv 1) pa_nil))) (pg_tupK (K := K) rfl (by rfl) (pgs_cons (pg_sub (pv 0) pe_int set_list) (pgs_cons (pg_name (i := 2) nd rfl (Or.inl rfl)) pgs_nil)))) (pss_cons (ps_ret (pv 2)) pss_nil)) pss_nil) (pss_cons (ps_asg (pe_op op_mod (pe_callTy call_int1 (by rfl) T.b_int bb_int (pa_cons (pe_op (op_addK (K := K) rfl) (pe_op op_mulU (pe_lock (pe_ix (ix_anyK (K := K) rfl hr.units) (pv 0) pe_int (fun _ _ => rfl))) pe_int) pe_int) pa_nil)) pe_int) (pg_sub (pv 0) pe_int set_list)) (pss_cons (ps_ret (pe_op op_mod (pe_callTy call_int1 (by rfl) T.b_int bb_int (pa_cons (pe_op op_fdiv (pe_lock (pe_ix (ix_anyK (K := K) rfl hr.units) (pv 0) pe_int (fun _ _ => rfl))) pe_int) pa_nil)) (pv 1))) pss_nil))), ?_⟩
    exact (q_ifS W (ets_test (es_op2 rv_gt (es_lockO (j := 0) rfl fun u1 _ _ s2 r3 => (eo_op2 rv_get (eo_var rfl r3) eo_int)) (es_of (H := H) eo_int))) hM (fun B4 H5 us10 W11 s12 h6 => (q_setTwo (jj := 0) W11 rfl rfl (es_cb rc_divmod (eas_cons (es_lockO (j := 0) rfl fun u16 _ _ s17 r18 => (eo_op2 rv_get (eo_var rfl r18) eo_int)) (eas_cons (es_of (H := H) (eo_var rfl (rp1.sm s12))) eas_nil))) (es_of (H := H) eo_int) h6 fun y19 v20 B21 H22 us23 W24 s25 r26 h27 => (q_retS W24 (es_of (H := H) (eo_var rfl r26)) h27 k))) (fun B7 H8 us13 W14 s15 h9 => (q_setL (jj := 0) W14 rfl rfl (es_op2 rv_mod (es_cb rc_int (eas_cons (es_op2 rv_add (es_op2 rv_mul (es_lockO (j := 0) rfl fun u30 _ _ s31 r32 => (eo_op2 rv_get (eo_var rfl r32) eo_int)) (es_of (H := H) eo_int)) (es_of (H := H) eo_int)) eas_nil)) (es_of (H := H) eo_int)) (es_of (H := H) eo_int) h9 fun B33 H34 us35 W36 s37 h38 => (q_retS W36 (es_op2 rv_mod (es_cb rc_int (eas_cons (es_op2 rv_fdiv (es_lockO (j := 0) rfl fun u41 _ _ s42 r43 => (eo_op2 rv_get (eo_var rfl r43) eo_int)) (es_of (H := H) eo_int)) eas_nil)) (es_of (H := H) (eo_var rfl ((rp1.sm s15).sm s37)))) h38 k))))
/-! _law_pick -/
abbrev s_law_pick : Stmt := top 30
abbrev N_law_pick : List Str := ["_law_purse_here", "_law_some"]
theorem sc_law_pick : FnScope N_law_pick ["_law_purse_here", "_law_some"] (defScope s_law_pick) := ⟨rfl, rfl, rfl, by decide +kernel, rfl, by decide +kernel, by decide +kernel⟩
def m_law_pick (p1 : U) : SM U := (opS getV (pureS (some p1)) (bindS (pureS (consO (callO lenV (consO (some p1) (some []))) (some []))) fun xs => callM 0 (b1 m_law_draw) xs))
theorem ok_law_pick (T : Tx w K mg a d) : FnOk P w K mg base CX0 2 (a 30) (d 30) ["_law_purse_here", "_law_some"] (spS (b1 m_law_pick)) := by
  refine T.f_law_pick.ok sc_law_pick (fun vs H Q E h => ?_) (fun cdv A outer s H vs Q E hr h => ?_)
  · obtain ⟨B, p, u, p1, vp1, R, rfl, _⟩ := ss1 h
    rfl
  · obtain ⟨B, p, u, p1, vp1, R, rfl, sB, W, rp1, hM, k⟩ := ss1 h
    have nd := sc_law_pick.nd
    refine ⟨_, (pss_cons (ps_ret (pe_ix (ix_anyK (K := K) rfl hr.units) (pv 1) (pe_call (ok_law_draw T) (hr.mono (by decide)) (by rfl) T.g_law_draw T.f_law_draw.kp T.bd_law_draw .nil pass0 (pa_cons (pv 0) (pa_cons (pe_callB (call_lenK (K := K) rfl) (by rfl) T.b_len bb_len (pa_cons (pv 1) pa_nil)) pa_nil))) (fun _ _ => rfl))) pss_nil), ?_⟩
    exact (q_retS W (es_op2 rv_get (es_of (H := H) (eo_var rfl rp1)) (es_callM (j := 0) rfl rfl (eas_of (H := H) (ea_cons (eo_cb' rc_len (ea_cons (eo_var rfl rp1) ea_nil)) ea_nil)))) hM k)
/-! _law_labels -/
abbrev s_law_labels : Stmt := top 31
abbrev N_law_labels : List Str := ["_law_purse_here", "_law_many", "_law_left", "_law_letter", "_law_found", "_law_turn"]
def m_law_labels_l1 (kL36 : SM U) : List U → SM U
  | [] => kL36
  | u54 :: l55 => (bindS (bindS (bindS (bindS (consS (lockO 1 fun u68 => (callO lenV (consO (some u68) (some [])))) (pureS (some []))) fun xs => callM 0 (b1 m_law_draw) xs) fun y => popS 1 y) fun y => appS 2 y) fun _ => (m_law_labels_l1 kL36 l55))
theorem sc_law_labels : FnScope N_law_labels ["_law_purse_here", "_law_many"] (defScope s_law_labels) := ⟨rfl, rfl, rfl, by decide +kernel, rfl, by decide +kernel, by decide +kernel⟩
def m_law_labels (p1 : U) : SM U := (bindS (pureS (op2 addV (compO (fun u4 => (some true)) (fun u4 => (some u4)) (iterO U.signs (some (U.str "abcdefghijklmnopqrstuvwxyz")))) (lstO (consO (some (U.str "to")) (consO (some (U.str "fork")) (consO (some (U.str "none")) (consO (some (U.str "error")) (consO (some (U.str "abcdefgh")) (some []))))))))) fun x7 => (bindS (ncatS (pureS (some x7)) (pureS (compO (fun u19 => (some true)) (fun u19 => (op2 mulSV (some u19) (some (U.int 2)))) (iterO U.signs (some (U.str "bdfhjlnprtvxz")))))) fun u => addS u (bindS (nlstS (pureS (some []))) fun u => addS u (withK (bindS (takeS 2) fun x87 => (pureS (some x87))) fun kL36 => (bindS (pureS (rngO rng1 (consO (some p1) (some [])))) fun xs39 => m_law_labels_l1 kL36 xs39)))))
theorem ok_law_labels (T : Tx w K mg a d) : FnOk P w K mg base CX0 2 (a 31) (d 31) ["_law_purse_here", "_law_many"] (spS (b1 m_law_labels)) := by
  refine T.f_law_labels.ok sc_law_labels (fun vs H Q E h => ?_) (fun cdv A outer s H vs Q E hr h => ?_)
  · obtain ⟨B, p, u, p1, vp1, R, rfl, _⟩ := ss1 h
    rfl
  · obtain ⟨B, p, u, p1, vp1, R, rfl, sB, W, rp1, hM, k⟩ := ss1 h
    have nd := sc_law_labels.nd
    refine ⟨_, (pss_cons (ps_set (i := 2) nd rfl (Or.inl rfl) (pe_op (op_addK (K := K) rfl) (pe_lc (own := [("_law_letter", 3)]) (g := gName 3) (tt := tYes) (by rfl) nd (pi_str pe_str) (blkOk_by (own := [("_law_letter", 3)]) (N := N_law_labels) (sc := defScope s_law_labels) (by decide +kernel)) (fun _ _ _ _ _ => pg_name (i := 3) nd rfl (Or.inl rfl)) (fun _ _ _ _ _ => pts_nil) (fun _ _ _ _ _ => (pv 3))) (pe_lst (pa_cons pe_str (pa_cons pe_str (pa_cons pe_str (pa_cons pe_str (pa_cons pe_str pa_nil)))))))) (pss_cons (ps_set (i := 2) nd rfl (Or.inl rfl) (pe_op (op_addK (K := K) rfl) (pv 2) (pe_lc (own := [("_law_letter", 3)]) (g := gName 3) (tt := tYes) (by rfl) nd (pi_str pe_str) (blkOk_by (own := [("_law_letter", 3)]) (N := N_law_labels) (sc := defScope s_law_labels) (by decide +kernel)) (fun _ _ _ _ _ => pg_name (i := 3) nd rfl (Or.inl rfl)) (fun _ _ _ _ _ => pts_nil) (fun _ _ _ _ _ => (pe_op op_mulS (pv 3) pe_int))))) (pss_cons (ps_set (i := 4) nd rfl (Or.inl rfl) (pe_lst pa_nil)) (pss_cons (ps_for PassesOwn.never rfl (pi_range1 (by rfl) T.b_range (pa_cons (pv 1) pa_nil)) (pg_name (i := 5) nd rfl (Or.inl rfl)) (pss_cons (ps_expr (pe_appK (K := K) rfl (pv 4) (pa_cons (pe_popK (K := K) rfl (pv 2) (pa_cons (pe_call (ok_law_draw T) (hr.mono (by decide)) (by rfl) T.g_law_draw T.f_law_draw.kp T.bd_law_draw .nil pass0 (pa_cons (pv 0) (pa_cons (pe_lock (pe_callB (call_lenK (K := K) rfl) (by rfl) T.b_len bb_len (pa_cons (pv 2) pa_nil))) pa_nil))) pa_nil)) pa_nil))) pss_nil)) (pss_cons (ps_ret (pv 4)) pss_nil))))), ?_⟩
    exact (q_asgS W (es_of (H := H) (eo_op2 rv_add (eo_lc (ei_str eo_str) (fun _ => rfl) (fun u4 v5 B2 H3 g1 r6 => et_yes) (fun u4 v5 B2 H3 g1 r6 => (eo_var rfl r6))) (eo_lst (ea_cons eo_str (ea_cons eo_str (ea_cons eo_str (ea_cons eo_str (ea_cons eo_str ea_nil)))))))) hM fun x7 v8 B9 H10 us13 W14 s15 r12 h11 => (q_newS W14 (en_cat (es_of (H := H) (eo_var rfl r12)) (es_of (H := H) (eo_lc (ei_str eo_str) (fun _ => rfl) (fun u19 v20 B17 H18 g16 r21 => et_yes) (fun u19 v20 B17 H18 g16 r21 => (eo_op2 rv_mulS (eo_var rfl r21) eo_int))))) h11 fun ad22 B23 H24 us25 W26 s27 h28 => (q_newS W26 (en_lst (eas_of (H := H) ea_nil)) h28 fun ad29 B30 H31 us32 W33 s34 h35 => (q_withS h35 fun kL36 ekL37 h38 => q_forS W33 (eis_of (H := H) (ei_rng1 (ea_cons (eo_var rfl (((rp1.sm s15).sm s27).sm s34)) ea_nil))) h38 fun xs39 B40 H41 us43 W44 s45 h42 => ⟨fun l46 sg47 B48 H49 => ∃ (o50 : Option V) (o51 : Option V) (o52 : Option V) (us53 : List U), sg47 = [some (.ref p), o50, some (.ref ad22), o51, some (.ref ad29), o52] ∧ Same B40 B48 ∧ Wh (bsM B H p) B48 H49 [p, ad22, ad29] us53 ∧ m_law_labels_l1 kL36 l46 us53 = some R, ⟨_, _, _, us43, rfl, Same.refl _, W44, h42⟩, fun _ _ _ _ ⟨_, _, _, _, _, sX, WX, _⟩ => ⟨sX, WX.s⟩, fun u54 l55 v56 sg94 B57 H58 B59 H60 hR g61 r62 => (by obtain ⟨_, _, _, us66, rfl, s64, W67, h65⟩ := hR; exact (q_exprS (W67.go g61) (es_app (j := 2) rfl rfl (es_pop (j := 1) rfl rfl (es_callM (j := 0) rfl rfl (eas_cons (es_lockO (j := 1) rfl fun u68 _ _ s69 r70 => (eo_cb' rc_len (ea_cons (eo_var rfl r70) ea_nil))) eas_nil)) (by repeat' (first | exact lk_pure | exact lk_pop | exact lk_app | exact lk_lockO | exact lk_lockT | exact lk_take | exact lk_callM (by decide) | refine lk_lockS (fun _ => ?_) | refine lk_bind ?_ (fun _ => ?_) | split))) (by repeat' (first | exact lk_pure | exact lk_pop | exact lk_app | exact lk_lockO | exact lk_lockT | exact lk_take | exact lk_callM (by decide) | refine lk_lockS (fun _ => ?_) | refine lk_bind ?_ (fun _ => ?_) | split))) h65 fun x71 B72 H73 us74 W75 s76 h77 => ⟨_, _, _, _, _, rfl, ((s64.trans g61.b).trans s76), W75, h77⟩)), fun sg83 B84 H85 hR => (by obtain ⟨_, _, _, us81, rfl, s79, W82, h80⟩ := hR; have h86 : kL36 us81 = some R := h80; subst ekL37; exact (q_keepS (j := 2) W82 rfl h86 fun x87 B88 us89 W90 s91 r92 h93 => (q_retS W90 (es_of (H := H) (eo_var rfl r92)) h93 k)))⟩))))
/-! _law_rows -/
abbrev s_law_rows : Stmt := top 32
abbrev N_law_rows : List Str := ["_law_purse_here", "_law_many", "_law_joins", "_law_found", "_law_room", "_law_name_here", "_law_free", "_law_some", "_law_each", "_law_near"]
def m_law_rows_l2 (x126 : U) (u41 : U) (x151 : U) (kL158 : SM U) : List U → SM U
  | [] => kL158
  | u177 :: l178 => (bindS (opS subV (lockO 2 fun u191 => (op2 getV (some u191) (some u177))) (pureS (some (U.int 1)))) fun y200 => bindS (pureS (some u177)) fun k201 => bindS (putS 2 k201 y200) fun _ => (m_law_rows_l2 x126 u41 x151 kL158 l178))
def m_law_rows_l1 (kL18 : U → SM U) : List U → U → SM U
  | [], x495 => kL18 x495
  | u41 :: l42, x53 => (bindS (lockO 2 fun u58 => (compO (fun u64 => (testO (op2 gtV (op2 getV (some u58) (some u64)) (some (U.int 0))))) (fun u64 => (some u64)) (iterO U.iter (some u58)))) fun x67 => (bindS (nlstS (pureS (some []))) fun u => addS u (ifS (lockT 1 fun u83 => (testO (op2 neV2 (some u83) (lstO (some []))))) (bindS (opS getV (pureS (some x67)) (callS maxA (consS (pureS (some (U.int 0))) (consS (opS subV (pureS (op2 subV (callO lenV (consO (some x67) (some []))) (some (U.int 1)))) (bindS (pureS (consO (some (U.int 4)) (some []))) fun xs => callM 0 (b1 m_law_draw) xs)) (pureS (some [])))))) fun x98 => (bindS (bindS (ifS (testS (opS gtV (bindS (pureS (consO (some (U.int 3)) (some []))) fun xs => callM 0 (b1 m_law_draw) xs) (pureS (some (U.int 0))))) (pureS (some x98)) (bindS (pureS (consO (some x67) (some []))) fun xs => callM 0 (b1 m_law_pick) xs)) fun y => appS 3 y) fun _ => (ifS (andS (pureS (testO (op2 gtV (callO lenV (consO (some x67) (some []))) (some (U.int 1))))) (andS (pureS (testO (op2 gtV (some x53) (some (U.int 0))))) (testS (opS eqV2 (bindS (pureS (consO (some (U.int 2)) (some []))) fun xs => callM 0 (b1 m_law_draw) xs) (pureS (some (U.int 0))))))) (bindS (pureS (op2 subV (some x53) (some (U.int 1)))) fun x126 => (bindS (bindS (bindS (consS (lockO 3 fun u135 => (compO (fun u141 => (testO (op2 notInV2 (some u141) (some u135)))) (fun u141 => (some u141)) (iterO U.iter (some x67)))) (pureS (some []))) fun xs => callM 0 (b1 m_law_pick) xs) fun y => appS 3 y) fun _ => (bindS (takeS 3) fun x151 => (withK (bindS (pureS (some (U.int 2))) fun y217 => bindS (pureS (some u41)) fun k218 => bindS (putS 2 k218 y217) fun _ => (bindS (bindS (tupS (consS (pureS (some u41)) (consS (callS (c1 tupleV) (consS (ifS (testS (opS eqV2 (bindS (pureS (consO (some (U.int 2)) (some []))) fun xs => callM 0 (b1 m_law_draw) xs) (pureS (some (U.int 0))))) (pureS (some x151)) (pureS (op2 stepV (some x151) (op1 negV (some (U.int 1)))))) (pureS (some [])))) (pureS (some []))))) fun y => appS 1 y) fun _ => (cutS' 3 (m_law_rows_l1 kL18 l42 (x126))))) fun kL158 => (bindS (pureS (iterO U.iter (some x151))) fun xs161 => m_law_rows_l2 x126 u41 x151 kL158 xs161))))) (bindS (takeS 3) fun x227 => (withK (bindS (pureS (some (U.int 2))) fun y293 => bindS (pureS (some u41)) fun k294 => bindS (putS 2 k294 y293) fun _ => (bindS (bindS (tupS (consS (pureS (some u41)) (consS (callS (c1 tupleV) (consS (ifS (testS (opS eqV2 (bindS (pureS (consO (some (U.int 2)) (some []))) fun xs => callM 0 (b1 m_law_draw) xs) (pureS (some (U.int 0))))) (pureS (some x227)) (pureS (op2 stepV (some x227) (op1 negV (some (U.int 1)))))) (pureS (some [])))) (pureS (some []))))) fun y => appS 1 y) fun _ => (cutS' 3 (m_law_rows_l1 kL18 l42 (x53))))) fun kL234 => (bindS (pureS (iterO U.iter (some x227))) fun xs237 => m_law_rows_l2 x53 u41 x227 kL234 xs237)))))) (ifS (andS (pureS (testO (op2 gtV (callO lenV (consO (some x67) (some []))) (some (U.int 1))))) (andS (pureS (testO (op2 gtV (some x53) (some (U.int 0))))) (testS (opS eqV2 (bindS (pureS (consO (some (U.int 2)) (some []))) fun xs => callM 0 (b1 m_law_draw) xs) (pureS (some (U.int 0))))))) (bindS (pureS (op2 subV (some x53) (some (U.int 1)))) fun x315 => (bindS (bindS (bindS (consS (lockO 3 fun u324 => (compO (fun u330 => (testO (op2 notInV2 (some u330) (some u324)))) (fun u330 => (some u330)) (iterO U.iter (some x67)))) (pureS (some []))) fun xs => callM 0 (b1 m_law_pick) xs) fun y => appS 3 y) fun _ => (bindS (takeS 3) fun x340 => (withK (bindS (pureS (some (U.int 2))) fun y406 => bindS (pureS (some u41)) fun k407 => bindS (putS 2 k407 y406) fun _ => (bindS (bindS (tupS (consS (pureS (some u41)) (consS (callS (c1 tupleV) (consS (ifS (testS (opS eqV2 (bindS (pureS (consO (some (U.int 2)) (some []))) fun xs => callM 0 (b1 m_law_draw) xs) (pureS (some (U.int 0))))) (pureS (some x340)) (pureS (op2 stepV (some x340) (op1 negV (some (U.int 1)))))) (pureS (some [])))) (pureS (some []))))) fun y => appS 1 y) fun _ => (cutS' 3 (m_law_rows_l1 kL18 l42 (x315))))) fun kL347 => (bindS (pureS (iterO U.iter (some x340))) fun xs350 => m_law_rows_l2 x315 u41 x340 kL347 xs350))))) (bindS (takeS 3) fun x416 => (withK (bindS (pureS (some (U.int 2))) fun y482 => bindS (pureS (some u41)) fun k483 => bindS (putS 2 k483 y482) fun _ => (bindS (bindS (tupS (consS (pureS (some u41)) (consS (callS (c1 tupleV) (consS (ifS (testS (opS eqV2 (bindS (pureS (consO (some (U.int 2)) (some []))) fun xs => callM 0 (b1 m_law_draw) xs) (pureS (some (U.int 0))))) (pureS (some x416)) (pureS (op2 stepV (some x416) (op1 negV (some (U.int 1)))))) (pureS (some [])))) (pureS (some []))))) fun y => appS 1 y) fun _ => (cutS' 3 (m_law_rows_l1 kL18 l42 (x53))))) fun kL423 => (bindS (pureS (iterO U.iter (some x416))) fun xs426 => m_law_rows_l2 x53 u41 x416 kL423 xs426)))))))
theorem sc_law_rows : FnScope N_law_rows ["_law_purse_here", "_law_many", "_law_joins"] (defScope s_law_rows) := ⟨rfl, rfl, rfl, by decide +kernel, rfl, by decide +kernel, by decide +kernel⟩
def m_law_rows (p1 : U) (p2 : U) : SM U := (bindS (nlstS (pureS (some []))) fun x => bindS (pureS (some (U.dic []))) fun y => addS x (addS y (withK (fun x495 => (bindS (takeS 1) fun x504 => (pureS (some x504)))) fun kL18 => (bindS (iterS (bindS (pureS (consO (some p1) (some []))) fun xs => callM 0 (b1 m_law_labels) xs)) fun xs21 => m_law_rows_l1 kL18 xs21 (p2)))))
theorem ok_law_rows (T : Tx w K mg a d) : FnOk P w K mg base CX0 3 (a 32) (d 32) ["_law_purse_here", "_law_many", "_law_joins"] (spS (b2 m_law_rows)) := by
  refine T.f_law_rows.ok sc_law_rows (fun vs H Q E h => ?_) (fun cdv A outer s H vs Q E hr h => ?_)
  · obtain ⟨B, p, u, p1, p2, vp1, vp2, R, rfl, _⟩ := ss2 h
    rfl
  · obtain ⟨B, p, u, p1, p2, vp1, vp2, R, rfl, sB, W, rp1, rp2, hM, k⟩ := ss2 h
    have nd := sc_law_rows.nd
    refine ⟨_, (pss_cons (ps_asg (pe_tup (pa_cons (pe_lst pa_nil) (pa_cons pe_dnewK pa_nil))) (pg_tupK (K := K) rfl (by rfl) (pgs_cons (pg_name (i := 3) nd rfl (Or.inl rfl)) (pgs_cons (pg_name (i := 4) nd rfl (Or.inr rfl)) pgs_nil)))) (pss_cons (ps_for PassesOwn.never rfl (pi_anyK (K := K) rfl (pe_call (ok_law_labels T) (hr.mono (by decide)) (by rfl) T.g_law_labels T.f_law_labels.kp T.bd_law_labels .nil pass0 (pa_cons (pv 0) (pa_cons (pv 1) pa_nil)))) (pg_name (i := 5) nd rfl (Or.inl rfl)) (pss_cons (ps_lockA (ps_setLc (i := 6) (own := [("_law_each", 8)]) (g := gName 8) (by rfl) nd rfl rfl (sw_true rfl rfl rfl (by decide +kernel)) (pi_anyK (K := K) rfl (pv 4)) (blkOk_by (own := [("_law_each", 8)]) (N := N_law_rows) (sc := defScope s_law_rows) (by decide +kernel)) (fun _ _ _ _ _ => pg_name (i := 8) nd rfl (Or.inl rfl)) (fun _ _ _ _ _ => (pts_one (pt_cmpR op_gt (pe_ix (ix_anyK (K := K) rfl hr.units) (pv 4) (pv 8) (fun _ _ => rfl)) pe_int (nomark _)))) (fun _ _ _ _ _ => (pv 8)))) (pss_cons (ps_set (i := 7) nd rfl (Or.inr rfl) (pe_lst pa_nil)) (pss_cons (ps_if (pt_lock (pt_cmpR (op_neU hr.units) (pv 3) (pe_lst pa_nil) (nomark _))) (pss_cons (ps_set (i := 9) nd rfl (Or.inl rfl) (pe_ix (ix_anyK (K := K) rfl hr.units) (pv 6) (pe_callB (call_maxK (K := K) rfl rfl) (by rfl) T.b_max bb_max (pa_cons pe_int (pa_cons (pe_op op_sub (pe_op op_sub (pe_callB (call_lenK (K := K) rfl) (by rfl) T.b_len bb_len (pa_cons (pv 6) pa_nil)) pe_int) (pe_call (ok_law_draw T) (hr.mono (by decide)) (by rfl) T.g_law_draw T.f_law_draw.kp T.bd_law_draw .nil pass0 (pa_cons (pv 0) (pa_cons pe_int pa_nil)))) pa_nil))) (fun _ _ => rfl))) (pss_cons (ps_expr (pe_appK (K := K) rfl (pv 7) (pa_cons (pe_ifExp (pt_cmpR op_gt (pe_call (ok_law_draw T) (hr.mono (by decide)) (by rfl) T.g_law_draw T.f_law_draw.kp T.bd_law_draw .nil pass0 (pa_cons (pv 0) (pa_cons pe_int pa_nil))) pe_int (nomark _)) (pv 9) (pe_call (ok_law_pick T) (hr.mono (by decide)) (by rfl) T.g_law_pick T.f_law_pick.kp T.bd_law_pick .nil pass0 (pa_cons (pv 0) (pa_cons (pv 6) pa_nil)))) pa_nil))) pss_nil)) pss_nil) (pss_cons (ps_if (PW.pt (pw_and (pt_cmpR op_gt (pe_callB (call_lenK (K := K) rfl) (by rfl) T.b_len bb_len (pa_cons (pv 6) pa_nil)) pe_int (nomark _)) (pw_and (pt_cmpR op_gt (pv 2) pe_int (nomark _)) (pw_and1 (pt_cmpR (op_eqU hr.units) (pe_call (ok_law_draw T) (hr.mono (by decide)) (by rfl) T.g_law_draw T.f_law_draw.kp T.bd_law_draw .nil pass0 (pa_cons (pv 0) (pa_cons pe_int pa_nil))) pe_int (nomark _)))))) (pss_cons (ps_set (i := 2) nd rfl (Or.inl rfl) (pe_op op_sub (pv 2) pe_int)) (pss_cons (ps_expr (pe_appK (K := K) rfl (pv 7) (pa_cons (pe_call (ok_law_pick T) (hr.mono (by decide)) (by rfl) T.g_law_pick T.f_law_pick.kp T.bd_law_pick .nil pass0 (pa_cons (pv 0) (pa_cons (pe_lock (pe_lc (own := [("_law_each", 8)]) (g := gName 8) (by rfl) nd (pi_anyK (K := K) rfl (pv 6)) (blkOk_by (own := [("_law_each", 8)]) (N := N_law_rows) (sc := defScope s_law_rows) (by decide +kernel)) (fun _ _ _ _ _ => pg_name (i := 8) nd rfl (Or.inl rfl)) (fun _ _ _ _ _ => (pts_one (pt_cmpR (op_notInA hr.units) (pv 8) (pv 7) (by rfl)))) (fun _ _ _ _ _ => (pv 8)))) pa_nil))) pa_nil))) pss_nil)) pss_nil) (pss_cons (ps_for PassesOwn.never rfl (pi_anyK (K := K) rfl (pv 7)) (pg_name (i := 8) nd rfl (Or.inl rfl)) (pss_cons (ps_dput (by exact Nat.lt_of_le_of_lt (Nat.add_le_add_left (show 1 ≤ 64 by decide) _) hr.units) (pv 4) (pv 8) (pe_op op_sub (pe_lock (pe_ix (ix_anyK (K := K) rfl hr.units) (pv 4) (pv 8) (fun _ _ => rfl))) pe_int) rfl) pss_nil)) (pss_cons (ps_dput (by exact Nat.lt_of_le_of_lt (Nat.add_le_add_left (show 1 ≤ 64 by decide) _) hr.units) (pv 4) (pv 5) pe_int rfl) (pss_cons (ps_expr (pe_appK (K := K) rfl (pv 3) (pa_cons (pe_tup (pa_cons (pv 5) (pa_cons (pe_callTy (call_tupleK (K := K) rfl) (by rfl) T.b_tuple bb_tuple (pa_cons (pe_ifExp (pt_cmpR (op_eqU hr.units) (pe_call (ok_law_draw T) (hr.mono (by decide)) (by rfl) T.g_law_draw T.f_law_draw.kp T.bd_law_draw .nil pass0 (pa_cons (pv 0) (pa_cons pe_int pa_nil))) pe_int (nomark _)) (pv 7) (pe_stepK (K := K) rfl (pv 7) (pe_un un_neg pe_int))) pa_nil)) pa_nil))) pa_nil))) pss_nil)))))))) (pss_cons (ps_ret (pv 3)) pss_nil))), ?_⟩
    exact (q_tupNN W (en_lst (eas_of (H := H) ea_nil)) en_dnewK hM fun ad16 ad17 B10 H11 us12 W13 s14 h15 => (q_withS h15 fun kL18 ekL19 h20 => q_forS W13 (eis_any (es_callM (j := 0) rfl rfl (eas_of (H := H) (ea_cons (eo_var rfl (rp1.sm s14)) ea_nil)))) h20 fun xs21 B22 H23 us25 W26 s27 h24 => ⟨fun l28 sg29 B30 H31 => ∃ (o32 : Option V) (x33 : U) (v34 : V) (o35 : Option V) (o36 : Option V) (o37 : Option V) (o38 : Option V) (o39 : Option V) (us40 : List U), sg29 = [some (.ref p), o32, some v34, some (.ref ad16), some (.ref ad17), o35, o36, o37, o38, o39] ∧ Same B22 B30 ∧ Rp B30 x33 v34 ∧ Wh (bsM B H p) B30 H31 [p, ad16, ad17] us40 ∧ m_law_rows_l1 kL18 l28 x33 us40 = some R, ⟨_, p2, _, _, _, _, _, _, us25, rfl, Same.refl _, ((rp2.sm s14).sm s27), W26, h24⟩, fun _ _ _ _ ⟨_, _, _, _, _, _, _, _, _, _, sX, _, WX, _⟩ => ⟨sX, WX.s⟩, fun u41 l42 v43 sg511 B44 H45 B46 H47 hR g48 r49 => (by obtain ⟨_, x53, v54, _, _, _, _, _, us56, rfl, s51, r55, W57, h52⟩ := hR; exact (q_asgS (W57.go g48) (es_lockO (j := 2) rfl fun u58 _ _ s59 r60 => (eo_lc (ei_any (eo_var rfl r60)) (fun _ => rfl) (fun u64 v65 B62 H63 g61 r66 => (et_test (eo_op2 rv_gt (eo_op2 rv_get (eo_var rfl (r60.upA g61)) (eo_var rfl r66)) eo_int))) (fun u64 v65 B62 H63 g61 r66 => (eo_var rfl r66)))) h52 fun x67 v68 B69 H70 us73 W74 s75 r72 h71 => (q_newS W74 (en_lst (eas_of (H := H) ea_nil)) h71 fun ad76 B77 H78 us79 W80 s81 h82 => (q_ifS W80 (ets_lockT (j := 1) rfl fun u83 _ _ s84 r85 => (et_test (eo_op2 rv_ne (eo_var rfl r85) (eo_lst ea_nil)))) h82 (fun B86 H87 us92 W93 s94 h88 => (q_asgS W93 (es_op2 rv_get (es_of (H := H) (eo_var rfl ((r72.sm s81).sm s94))) (es_cb rc_maxA (eas_cons (es_of (H := H) eo_int) (eas_cons (es_op2 rv_sub (es_of (H := H) (eo_op2 rv_sub (eo_cb' rc_len (ea_cons (eo_var rfl ((r72.sm s81).sm s94)) ea_nil)) eo_int)) (es_callM (j := 0) rfl rfl (eas_of (H := H) (ea_cons eo_int ea_nil)))) eas_nil)))) h88 fun x98 v99 B100 H101 us104 W105 s106 r103 h102 => (q_exprS W105 (es_app (j := 3) rfl rfl (es_if (ets_test (es_op2 rv_gt (es_callM (j := 0) rfl rfl (eas_of (H := H) (ea_cons eo_int ea_nil))) (es_of (H := H) eo_int))) (es_of (H := H) (eo_var rfl r103)) (es_callM (j := 0) rfl rfl (eas_of (H := H) (ea_cons (eo_var rfl (((r72.sm s81).sm s94).sm s106)) ea_nil)))) (by repeat' (first | exact lk_pure | exact lk_pop | exact lk_app | exact lk_lockO | exact lk_lockT | exact lk_take | exact lk_callM (by decide) | refine lk_lockS (fun _ => ?_) | refine lk_bind ?_ (fun _ => ?_) | split))) h102 fun x107 B108 H109 us110 W111 s112 h113 => (q_ifS W111 (ets_and (ets_of (H := H) (et_test (eo_op2 rv_gt (eo_cb' rc_len (ea_cons (eo_var rfl ((((r72.sm s81).sm s94).sm s106).sm s112)) ea_nil)) eo_int))) (ets_and (ets_of (H := H) (et_test (eo_op2 rv_gt (eo_var rfl ((((((r55.up g48).sm s75).sm s81).sm s94).sm s106).sm s112)) eo_int))) (ets_test (es_op2 rv_eq (es_callM (j := 0) rfl rfl (eas_of (H := H) (ea_cons eo_int ea_nil))) (es_of (H := H) eo_int))))) h113 (fun B114 H115 us120 W121 s122 h116 => (q_asgS W121 (es_of (H := H) (eo_op2 rv_sub (eo_var rfl (((((((r55.up g48).sm s75).sm s81).sm s94).sm s106).sm s112).sm s122)) eo_int)) h116 fun x126 v127 B128 H129 us132 W133 s134 r131 h130 => (q_exprS W133 (es_app (j := 3) rfl rfl (es_callM (j := 0) rfl rfl (eas_cons (es_lockO (j := 3) rfl fun u135 _ _ s136 r137 => (eo_lc (ei_any (eo_var rfl (((((((r72.sm s81).sm s94).sm s106).sm s112).sm s122).sm s134).sm s136))) (fun _ => rfl) (fun u141 v142 B139 H140 g138 r143 => (et_test (eo_op2 rv_notIn (eo_var rfl r143) (eo_var rfl (r137.upA g138))))) (fun u141 v142 B139 H140 g138 r143 => (eo_var rfl r143)))) eas_nil)) (by repeat' (first | exact lk_pure | exact lk_pop | exact lk_app | exact lk_lockO | exact lk_lockT | exact lk_take | exact lk_callM (by decide) | refine lk_lockS (fun _ => ?_) | refine lk_bind ?_ (fun _ => ?_) | split))) h130 fun x144 B145 H146 us147 W148 s149 h150 => (q_keepS (j := 3) W148 rfl h150 fun x151 B152 us153 W154 s155 r156 h157 => (q_withS h157 fun kL158 ekL159 h160 => q_forS W154 (eis_of (H := H) (ei_any (eo_var rfl r156))) h160 fun xs161 B162 H163 us165 W166 s167 h164 => ⟨fun l168 sg169 B170 H171 => ∃ (o172 : Option V) (o173 : Option V) (o174 : Option V) (o175 : Option V) (us176 : List U), sg169 = [some (.ref p), o172, some v127, some (.ref ad16), some (.ref ad17), some v43, o173, some (.ref ad76), o174, o175] ∧ Same B162 B170 ∧ Wh (bsM B H p) B170 H171 [p, ad16, ad17, ad76] us176 ∧ m_law_rows_l2 x126 u41 x151 kL158 l168 us176 = some R, ⟨_, _, _, _, us165, rfl, Same.refl _, W166, h164⟩, fun _ _ _ _ ⟨_, _, _, _, _, _, sX, WX, _⟩ => ⟨sX, WX.s⟩, fun u177 l178 v179 sg226 B180 H181 B182 H183 hR g184 r185 => (by obtain ⟨_, _, _, _, us189, rfl, s187, W190, h188⟩ := hR; exact (q_dput (jj := 2) (W190.go g184) rfl rfl (es_op2 rv_sub (es_lockO (j := 2) rfl fun u191 _ _ s192 r193 => (eo_op2 rv_get (eo_var rfl r193) (eo_var rfl (r185.sm s192)))) (es_of (H := H) eo_int)) (es_of (H := H) (eo_var rfl r185)) h188 fun B194 H195 us196 W197 s198 h199 => ⟨_, _, _, _, _, _, rfl, ((s187.trans g184.b).trans s198), W197, h199⟩)), fun sg207 B208 H209 hR => (by obtain ⟨_, _, _, _, us205, rfl, s203, W206, h204⟩ := hR; have h210 : kL158 us205 = some R := h204; subst ekL159; exact (q_dput (jj := 2) W206 rfl rfl (es_of (H := H) eo_int) (es_of (H := H) (eo_var rfl (((((((((((r49.sm s75).sm s81).sm s94).sm s106).sm s112).sm s122).sm s134).sm s149).sm s155).sm s167).sm s203))) h210 fun B211 H212 us213 W214 s215 h216 => (q_exprS W214 (es_app (j := 1) rfl rfl (es_tup (eas_cons (es_of (H := H) (eo_var rfl ((((((((((((r49.sm s75).sm s81).sm s94).sm s106).sm s112).sm s122).sm s134).sm s149).sm s155).sm s167).sm s203).sm s215))) (eas_cons (es_cb rc_tuple (eas_cons (es_if (ets_test (es_op2 rv_eq (es_callM (j := 0) rfl rfl (eas_of (H := H) (ea_cons eo_int ea_nil))) (es_of (H := H) eo_int))) (es_of (H := H) (eo_var rfl (((r156.sm s167).sm s203).sm s215))) (es_of (H := H) (eo_step (eo_var rfl (((r156.sm s167).sm s203).sm s215)) (eo_op1 ru_neg eo_int)))) eas_nil)) eas_nil))) (by repeat' (first | exact lk_pure | exact lk_pop | exact lk_app | exact lk_lockO | exact lk_lockT | exact lk_take | exact lk_callM (by decide) | refine lk_lockS (fun _ => ?_) | refine lk_bind ?_ (fun _ => ?_) | split))) h216 fun x219 B220 H221 us222 W223 s224 h225 => ⟨_, _, x126, _, _, _, _, _, _, _, rfl, ((((((((((((((s51.trans g48.b).trans s75).trans s81).trans s94).trans s106).trans s112).trans s122).trans s134).trans s149).trans s155).trans s167).trans s203).trans s215).trans s224), ((((((r131.sm s149).sm s155).sm s167).sm s203).sm s215).sm s224), (W223.take 3 (.inl (by decide))), h225⟩)))⟩))))) (fun B117 H118 us123 W124 s125 h119 => (q_keepS (j := 3) W124 rfl h119 fun x227 B228 us229 W230 s231 r232 h233 => (q_withS h233 fun kL234 ekL235 h236 => q_forS W230 (eis_of (H := H) (ei_any (eo_var rfl r232))) h236 fun xs237 B238 H239 us241 W242 s243 h240 => ⟨fun l244 sg245 B246 H247 => ∃ (o248 : Option V) (o249 : Option V) (o250 : Option V) (o251 : Option V) (us252 : List U), sg245 = [some (.ref p), o248, some v54, some (.ref ad16), some (.ref ad17), some v43, o249, some (.ref ad76), o250, o251] ∧ Same B238 B246 ∧ Wh (bsM B H p) B246 H247 [p, ad16, ad17, ad76] us252 ∧ m_law_rows_l2 x53 u41 x227 kL234 l244 us252 = some R, ⟨_, _, _, _, us241, rfl, Same.refl _, W242, h240⟩, fun _ _ _ _ ⟨_, _, _, _, _, _, sX, WX, _⟩ => ⟨sX, WX.s⟩, fun u253 l254 v255 sg302 B256 H257 B258 H259 hR g260 r261 => (by obtain ⟨_, _, _, _, us265, rfl, s263, W266, h264⟩ := hR; exact (q_dput (jj := 2) (W266.go g260) rfl rfl (es_op2 rv_sub (es_lockO (j := 2) rfl fun u267 _ _ s268 r269 => (eo_op2 rv_get (eo_var rfl r269) (eo_var rfl (r261.sm s268)))) (es_of (H := H) eo_int)) (es_of (H := H) (eo_var rfl r261)) h264 fun B270 H271 us272 W273 s274 h275 => ⟨_, _, _, _, _, _, rfl, ((s263.trans g260.b).trans s274), W273, h275⟩)), fun sg283 B284 H285 hR => (by obtain ⟨_, _, _, _, us281, rfl, s279, W282, h280⟩ := hR; have h286 : kL234 us281 = some R := h280; subst ekL235; exact (q_dput (jj := 2) W282 rfl rfl (es_of (H := H) eo_int) (es_of (H := H) (eo_var rfl (((((((((r49.sm s75).sm s81).sm s94).sm s106).sm s112).sm s125).sm s231).sm s243).sm s279))) h286 fun B287 H288 us289 W290 s291 h292 => (q_exprS W290 (es_app (j := 1) rfl rfl (es_tup (eas_cons (es_of (H := H) (eo_var rfl ((((((((((r49.sm s75).sm s81).sm s94).sm s106).sm s112).sm s125).sm s231).sm s243).sm s279).sm s291))) (eas_cons (es_cb rc_tuple (eas_cons (es_if (ets_test (es_op2 rv_eq (es_callM (j := 0) rfl rfl (eas_of (H := H) (ea_cons eo_int ea_nil))) (es_of (H := H) eo_int))) (es_of (H := H) (eo_var rfl (((r232.sm s243).sm s279).sm s291))) (es_of (H := H) (eo_step (eo_var rfl (((r232.sm s243).sm s279).sm s291)) (eo_op1 ru_neg eo_int)))) eas_nil)) eas_nil))) (by repeat' (first | exact lk_pure | exact lk_pop | exact lk_app | exact lk_lockO | exact lk_lockT | exact lk_take | exact lk_callM (by decide) | refine lk_lockS (fun _ => ?_) | refine lk_bind ?_ (fun _ => ?_) | split))) h292 fun x295 B296 H297 us298 W299 s300 h301 => ⟨_, _, x53, _, _, _, _, _, _, _, rfl, ((((((((((((s51.trans g48.b).trans s75).trans s81).trans s94).trans s106).trans s112).trans s125).trans s231).trans s243).trans s279).trans s291).trans s300), ((((((((((((r55.up g48).sm s75).sm s81).sm s94).sm s106).sm s112).sm s125).sm s231).sm s243).sm s279).sm s291).sm s300), (W299.take 3 (.inl (by decide))), h301⟩)))⟩))))))) (fun B89 H90 us95 W96 s97 h91 => (q_ifS W96 (ets_and (ets_of (H := H) (et_test (eo_op2 rv_gt (eo_cb' rc_len (ea_cons (eo_var rfl ((r72.sm s81).sm s97)) ea_nil)) eo_int))) (ets_and (ets_of (H := H) (et_test (eo_op2 rv_gt (eo_var rfl ((((r55.up g48).sm s75).sm s81).sm s97)) eo_int))) (ets_test (es_op2 rv_eq (es_callM (j := 0) rfl rfl (eas_of (H := H) (ea_cons eo_int ea_nil))) (es_of (H := H) eo_int))))) h91 (fun B303 H304 us309 W310 s311 h305 => (q_asgS W310 (es_of (H := H) (eo_op2 rv_sub (eo_var rfl (((((r55.up g48).sm s75).sm s81).sm s97).sm s311)) eo_int)) h305 fun x315 v316 B317 H318 us321 W322 s323 r320 h319 => (q_exprS W322 (es_app (j := 3) rfl rfl (es_callM (j := 0) rfl rfl (eas_cons (es_lockO (j := 3) rfl fun u324 _ _ s325 r326 => (eo_lc (ei_any (eo_var rfl (((((r72.sm s81).sm s97).sm s311).sm s323).sm s325))) (fun _ => rfl) (fun u330 v331 B328 H329 g327 r332 => (et_test (eo_op2 rv_notIn (eo_var rfl r332) (eo_var rfl (r326.upA g327))))) (fun u330 v331 B328 H329 g327 r332 => (eo_var rfl r332)))) eas_nil)) (by repeat' (first | exact lk_pure | exact lk_pop | exact lk_app | exact lk_lockO | exact lk_lockT | exact lk_take | exact lk_callM (by decide) | refine lk_lockS (fun _ => ?_) | refine lk_bind ?_ (fun _ => ?_) | split))) h319 fun x333 B334 H335 us336 W337 s338 h339 => (q_keepS (j := 3) W337 rfl h339 fun x340 B341 us342 W343 s344 r345 h346 => (q_withS h346 fun kL347 ekL348 h349 => q_forS W343 (eis_of (H := H) (ei_any (eo_var rfl r345))) h349 fun xs350 B351 H352 us354 W355 s356 h353 => ⟨fun l357 sg358 B359 H360 => ∃ (o361 : Option V) (o362 : Option V) (o363 : Option V) (o364 : Option V) (us365 : List U), sg358 = [some (.ref p), o361, some v316, some (.ref ad16), some (.ref ad17), some v43, o362, some (.ref ad76), o363, o364] ∧ Same B351 B359 ∧ Wh (bsM B H p) B359 H360 [p, ad16, ad17, ad76] us365 ∧ m_law_rows_l2 x315 u41 x340 kL347 l357 us365 = some R, ⟨_, _, _, _, us354, rfl, Same.refl _, W355, h353⟩, fun _ _ _ _ ⟨_, _, _, _, _, _, sX, WX, _⟩ => ⟨sX, WX.s⟩, fun u366 l367 v368 sg415 B369 H370 B371 H372 hR g373 r374 => (by obtain ⟨_, _, _, _, us378, rfl, s376, W379, h377⟩ := hR; exact (q_dput (jj := 2) (W379.go g373) rfl rfl (es_op2 rv_sub (es_lockO (j := 2) rfl fun u380 _ _ s381 r382 => (eo_op2 rv_get (eo_var rfl r382) (eo_var rfl (r374.sm s381)))) (es_of (H := H) eo_int)) (es_of (H := H) (eo_var rfl r374)) h377 fun B383 H384 us385 W386 s387 h388 => ⟨_, _, _, _, _, _, rfl, ((s376.trans g373.b).trans s387), W386, h388⟩)), fun sg396 B397 H398 hR => (by obtain ⟨_, _, _, _, us394, rfl, s392, W395, h393⟩ := hR; have h399 : kL347 us394 = some R := h393; subst ekL348; exact (q_dput (jj := 2) W395 rfl rfl (es_of (H := H) eo_int) (es_of (H := H) (eo_var rfl (((((((((r49.sm s75).sm s81).sm s97).sm s311).sm s323).sm s338).sm s344).sm s356).sm s392))) h399 fun B400 H401 us402 W403 s404 h405 => (q_exprS W403 (es_app (j := 1) rfl rfl (es_tup (eas_cons (es_of (H := H) (eo_var rfl ((((((((((r49.sm s75).sm s81).sm s97).sm s311).sm s323).sm s338).sm s344).sm s356).sm s392).sm s404))) (eas_cons (es_cb rc_tuple (eas_cons (es_if (ets_test (es_op2 rv_eq (es_callM (j := 0) rfl rfl (eas_of (H := H) (ea_cons eo_int ea_nil))) (es_of (H := H) eo_int))) (es_of (H := H) (eo_var rfl (((r345.sm s356).sm s392).sm s404))) (es_of (H := H) (eo_step (eo_var rfl (((r345.sm s356).sm s392).sm s404)) (eo_op1 ru_neg eo_int)))) eas_nil)) eas_nil))) (by repeat' (first | exact lk_pure | exact lk_pop | exact lk_app | exact lk_lockO | exact lk_lockT | exact lk_take | exact lk_callM (by decide) | refine lk_lockS (fun _ => ?_) | refine lk_bind ?_ (fun _ => ?_) | split))) h405 fun x408 B409 H410 us411 W412 s413 h414 => ⟨_, _, x315, _, _, _, _, _, _, _, rfl, ((((((((((((s51.trans g48.b).trans s75).trans s81).trans s97).trans s311).trans s323).trans s338).trans s344).trans s356).trans s392).trans s404).trans s413), ((((((r320.sm s338).sm s344).sm s356).sm s392).sm s404).sm s413), (W412.take 3 (.inl (by decide))), h414⟩)))⟩))))) (fun B306 H307 us312 W313 s314 h308 => (q_keepS (j := 3) W313 rfl h308 fun x416 B417 us418 W419 s420 r421 h422 => (q_withS h422 fun kL423 ekL424 h425 => q_forS W419 (eis_of (H := H) (ei_any (eo_var rfl r421))) h425 fun xs426 B427 H428 us430 W431 s432 h429 => ⟨fun l433 sg434 B435 H436 => ∃ (o437 : Option V) (o438 : Option V) (o439 : Option V) (o440 : Option V) (us441 : List U), sg434 = [some (.ref p), o437, some v54, some (.ref ad16), some (.ref ad17), some v43, o438, some (.ref ad76), o439, o440] ∧ Same B427 B435 ∧ Wh (bsM B H p) B435 H436 [p, ad16, ad17, ad76] us441 ∧ m_law_rows_l2 x53 u41 x416 kL423 l433 us441 = some R, ⟨_, _, _, _, us430, rfl, Same.refl _, W431, h429⟩, fun _ _ _ _ ⟨_, _, _, _, _, _, sX, WX, _⟩ => ⟨sX, WX.s⟩, fun u442 l443 v444 sg491 B445 H446 B447 H448 hR g449 r450 => (by obtain ⟨_, _, _, _, us454, rfl, s452, W455, h453⟩ := hR; exact (q_dput (jj := 2) (W455.go g449) rfl rfl (es_op2 rv_sub (es_lockO (j := 2) rfl fun u456 _ _ s457 r458 => (eo_op2 rv_get (eo_var rfl r458) (eo_var rfl (r450.sm s457)))) (es_of (H := H) eo_int)) (es_of (H := H) (eo_var rfl r450)) h453 fun B459 H460 us461 W462 s463 h464 => ⟨_, _, _, _, _, _, rfl, ((s452.trans g449.b).trans s463), W462, h464⟩)), fun sg472 B473 H474 hR => (by obtain ⟨_, _, _, _, us470, rfl, s468, W471, h469⟩ := hR; have h475 : kL423 us470 = some R := h469; subst ekL424; exact (q_dput (jj := 2) W471 rfl rfl (es_of (H := H) eo_int) (es_of (H := H) (eo_var rfl (((((((r49.sm s75).sm s81).sm s97).sm s314).sm s420).sm s432).sm s468))) h475 fun B476 H477 us478 W479 s480 h481 => (q_exprS W479 (es_app (j := 1) rfl rfl (es_tup (eas_cons (es_of (H := H) (eo_var rfl ((((((((r49.sm s75).sm s81).sm s97).sm s314).sm s420).sm s432).sm s468).sm s480))) (eas_cons (es_cb rc_tuple (eas_cons (es_if (ets_test (es_op2 rv_eq (es_callM (j := 0) rfl rfl (eas_of (H := H) (ea_cons eo_int ea_nil))) (es_of (H := H) eo_int))) (es_of (H := H) (eo_var rfl (((r421.sm s432).sm s468).sm s480))) (es_of (H := H) (eo_step (eo_var rfl (((r421.sm s432).sm s468).sm s480)) (eo_op1 ru_neg eo_int)))) eas_nil)) eas_nil))) (by repeat' (first | exact lk_pure | exact lk_pop | exact lk_app | exact lk_lockO | exact lk_lockT | exact lk_take | exact lk_callM (by decide) | refine lk_lockS (fun _ => ?_) | refine lk_bind ?_ (fun _ => ?_) | split))) h481 fun x484 B485 H486 us487 W488 s489 h490 => ⟨_, _, x53, _, _, _, _, _, _, _, rfl, ((((((((((s51.trans g48.b).trans s75).trans s81).trans s97).trans s314).trans s420).trans s432).trans s468).trans s480).trans s489), ((((((((((r55.up g48).sm s75).sm s81).sm s97).sm s314).sm s420).sm s432).sm s468).sm s480).sm s489), (W488.take 3 (.inl (by decide))), h490⟩)))⟩))))))))), fun sg500 B501 H502 hR => (by obtain ⟨_, x495, v496, _, _, _, _, _, us498, rfl, s493, r497, W499, h494⟩ := hR; have h503 : kL18 x495 us498 = some R := h494; subst ekL19; exact (q_keepS (j := 1) W499 rfl h503 fun x504 B505 us506 W507 s508 r509 h510 => (q_retS W507 (es_of (H := H) (eo_var rfl r509)) h510 k)))⟩))
/-! _law_said -/
abbrev s_law_said : Stmt := top 33
abbrev N_law_said : List Str := ["_law_rows_here", "_law_name_here", "_law_some"]
theorem sc_law_said : FnScope N_law_said ["_law_rows_here"] (defScope s_law_said) := ⟨rfl, rfl, rfl, by decide +kernel, rfl, by decide +kernel, by decide +kernel⟩
def m_law_said (p0 : U) : Option U := (op2 joinV (some (U.str "; ")) (compO2 (fun u4 u7 => (some true)) (fun u4 u7 => (op2 joinV (some (U.str " ")) (op2 addV (lstO (consO (some u4) (some []))) (callO (c1 listB) (consO (some u7) (some [])))))) (iterO U.iter (some p0))))
theorem ok_law_said (T : Tx w K mg a d) : FnOk P w K mg base CX0 1 (a 33) (d 33) ["_law_rows_here"] (spU (a1 m_law_said)) := by
  refine T.f_law_said.ok sc_law_said (fun vs H Q E h => ?_) (fun cdv A outer s H vs Q E hr h => ?_)
  · obtain ⟨B, p0, vp0, r, rfl, _⟩ := sp1 h
    rfl
  · obtain ⟨B, p0, vp0, r, rfl, sB, rp0, hM, k⟩ := sp1 h
    have nd := sc_law_said.nd
    refine ⟨_, (pss_cons (ps_ret (pe_joinK (K := K) rfl pe_str (pe_lc (own := [("_law_name_here", 1), ("_law_some", 2)]) (g := gTup K 2 (gCons (gName 1) (gCons (gName 2) gNil))) (tt := tYes) (by rfl) nd (pi_anyK (K := K) rfl (pv 0)) (blkOk_by (own := [("_law_name_here", 1), ("_law_some", 2)]) (N := N_law_said) (sc := defScope s_law_said) (by decide +kernel)) (fun _ _ _ _ _ => pg_tupK (K := K) rfl (by rfl) (pgs_cons (pg_name (i := 1) nd rfl (Or.inl rfl)) (pgs_cons (pg_name (i := 2) nd rfl (Or.inl rfl)) pgs_nil))) (fun _ _ _ _ _ => pts_nil) (fun _ _ _ _ _ => (pe_joinK (K := K) rfl pe_str (pe_op (op_addK (K := K) rfl) (pe_lst (pa_cons (pv 1) pa_nil)) (pe_callTy (call_listK (K := K) rfl rfl) (by rfl) T.b_list bb_list (pa_cons (pv 2) pa_nil)))))))) pss_nil), ?_⟩
    exact (q_ret (eo_join eo_str (eo_lc2n (ei_any (eo_var rfl rp0)) (fun _ _ => rfl) (fun u4 u7 v5 v8 B2 H3 g1 r6 r9 => et_yes) (fun u4 u7 v5 v8 B2 H3 g1 r6 r9 => (eo_join eo_str (eo_op2 rv_add (eo_lst (ea_cons (eo_var rfl r6) ea_nil)) (eo_cb' rc_listK (ea_cons (eo_var rfl r9) ea_nil))))))) hM (Go.refl sB) k)
/-! _law_pairs -/
abbrev s_law_pairs : Stmt := top 34
abbrev N_law_pairs : List Str := ["_law_rows_here", "_law_found", "_law_name_here", "_law_some", "_law_each"]
def m_law_pairs_l1 (kL8 : U → Option U) : List U → U → Option U
  | [], x64 => kL8 x64
  | u26 :: l27, x38 => (unp2F u26 fun u41 u42 => ((op2 addV (some x38) (compO (fun u51 => (some true)) (fun u51 => (tupO (consO (some u51) (consO (some u41) (some []))))) (iterO U.iter (some u42)))).bind fun x54 => (m_law_pairs_l1 kL8 l27 (x54))))
theorem sc_law_pairs : FnScope N_law_pairs ["_law_rows_here"] (defScope s_law_pairs) := ⟨rfl, rfl, rfl, by decide +kernel, rfl, by decide +kernel, by decide +kernel⟩
def m_law_pairs (p0 : U) : Option U := ((lstO (some [])).bind fun x1 => (withK (fun x64 => (some x64)) fun kL8 => ((iterO U.iter (some p0)).bind fun xs11 => m_law_pairs_l1 kL8 xs11 (x1))))
theorem ok_law_pairs (T : Tx w K mg a d) : FnOk P w K mg base CX0 1 (a 34) (d 34) ["_law_rows_here"] (spU (a1 m_law_pairs)) := by
  refine T.f_law_pairs.ok sc_law_pairs (fun vs H Q E h => ?_) (fun cdv A outer s H vs Q E hr h => ?_)
  · obtain ⟨B, p0, vp0, r, rfl, _⟩ := sp1 h
    rfl
  · obtain ⟨B, p0, vp0, r, rfl, sB, rp0, hM, k⟩ := sp1 h
    have nd := sc_law_pairs.nd
    refine ⟨_, (pss_cons (ps_set (i := 1) nd rfl (Or.inl rfl) (pe_lst pa_nil)) (pss_cons (ps_for PassesOwn.never rfl (pi_anyK (K := K) rfl (pv 0)) (pg_tupK (K := K) rfl (by rfl) (pgs_cons (pg_name (i := 2) nd rfl (Or.inr rfl)) (pgs_cons (pg_name (i := 3) nd rfl (Or.inl rfl)) pgs_nil))) (pss_cons (ps_set (i := 1) nd rfl (Or.inl rfl) (pe_op (op_addK (K := K) rfl) (pv 1) (pe_lc (own := [("_law_each", 4)]) (g := gName 4) (tt := tYes) (by rfl) nd (pi_anyK (K := K) rfl (pv 3)) (blkOk_by (own := [("_law_each", 4)]) (N := N_law_pairs) (sc := defScope s_law_pairs) (by decide +kernel)) (fun _ _ _ _ _ => pg_name (i := 4) nd rfl (Or.inl rfl)) (fun _ _ _ _ _ => pts_nil) (fun _ _ _ _ _ => (pe_tup (pa_cons (pv 4) (pa_cons (pv 2) pa_nil))))))) pss_nil)) (pss_cons (ps_ret (pv 1)) pss_nil))), ?_⟩
    exact (q_asg sB (eo_lst ea_nil) hM fun x1 v2 B3 H4 g7 r6 h5 => (q_withO h5 fun kL8 ekL9 h10 => q_forM g7.bh (ei_any (eo_var rfl (rp0.up g7))) h10 fun xs11 B12 H13 h14 g15 => ⟨fun l16 sg17 B18 H19 => ∃ (o20 : Option V) (x21 : U) (v22 : V) (o23 : Option V) (o24 : Option V) (o25 : Option V), sg17 = [o20, some v22, o23, o24, o25] ∧ Go B H B18 H19 ∧ Same B12 B18 ∧ Rp B18 x21 v22 ∧ m_law_pairs_l1 kL8 l16 x21 = some r, ⟨_, x1, _, _, _, _, rfl, (((Go.refl sB).trans g7).trans g15), Same.refl _, (r6.up g15), h14⟩, fun _ _ _ _ ⟨_, _, _, _, _, _, _, GX, sX, _, _⟩ => ⟨sX, GX.bh⟩, fun u26 l27 v28 sg71 B29 H30 B31 H32 hR g33 r34 => (by obtain ⟨_, x38, v39, _, _, _, rfl, G35, s36, r40, h37⟩ := hR; exact g_two2 g33.bh r34 h37 fun u41 u42 v43 v44 r45 r46 h47 => (q_asg g33.bh (eo_op2 rv_add (eo_var rfl (r40.up g33)) (eo_lc (ei_any (eo_var rfl r46)) (fun _ => rfl) (fun u51 v52 B49 H50 g48 r53 => et_yes) (fun u51 v52 B49 H50 g48 r53 => (eo_tup (ea_cons (eo_var rfl r53) (ea_cons (eo_var rfl (r45.upA g48)) ea_nil)))))) h47 fun x54 v55 B56 H57 g60 r59 h58 => ⟨_, _, x54, _, _, _, _, rfl, ((G35.trans g33).trans g60), ((s36.trans g33.b).trans g60.b), r59, h58⟩)), fun sg67 B68 H69 hR => (by obtain ⟨_, x64, v65, _, _, _, rfl, G61, s62, r66, h63⟩ := hR; have h70 : kL8 x64 = some r := h63; subst ekL9; exact (q_ret (eo_var rfl r66) h70 G61 k))⟩))
/-! _law_beside -/
abbrev s_law_beside : Stmt := top 35
abbrev N_law_beside : List Str := ["_law_one_pair", "_law_two_pair"]
theorem sc_law_beside : FnScope N_law_beside ["_law_one_pair", "_law_two_pair"] (defScope s_law_beside) := ⟨rfl, rfl, rfl, by decide +kernel, rfl, by decide +kernel, by decide +kernel⟩
def m_law_beside (p0 : U) (p1 : U) : Option U := (andV (op2 neV2 (some p0) (some p1)) (orV (op2 eqV2 (op2 getV (some p0) (some (U.int 0))) (op2 getV (some p1) (some (U.int 0)))) (op2 eqV2 (op2 getV (some p0) (some (U.int 1))) (op2 getV (some p1) (some (U.int 1))))))
theorem ok_law_beside (T : Tx w K mg a d) : FnOk P w K mg base CX0 1 (a 35) (d 35) ["_law_one_pair", "_law_two_pair"] (spU (a2 m_law_beside)) := by
  refine T.f_law_beside.ok sc_law_beside (fun vs H Q E h => ?_) (fun cdv A outer s H vs Q E hr h => ?_)
  · obtain ⟨B, p0, p1, vp0, vp1, r, rfl, _⟩ := sp2 h
    rfl
  · obtain ⟨B, p0, p1, vp0, vp1, r, rfl, sB, rp0, rp1, hM, k⟩ := sp2 h
    have nd := sc_law_beside.nd
    refine ⟨_, (pss_cons (ps_ret (pe_and (pe_cmpR (op_neU hr.units) (pv 0) (pv 1) (nomark _)) (pe_one (pe_or (pe_cmpR (op_eqU hr.units) (pe_ix (ix_anyK (K := K) rfl hr.units) (pv 0) pe_int (fun _ _ => rfl)) (pe_ix (ix_anyK (K := K) rfl hr.units) (pv 1) pe_int (fun _ _ => rfl)) (nomark _)) (pe_one (pe_cmpR (op_eqU hr.units) (pe_ix (ix_anyK (K := K) rfl hr.units) (pv 0) pe_int (fun _ _ => rfl)) (pe_ix (ix_anyK (K := K) rfl hr.units) (pv 1) pe_int (fun _ _ => rfl)) (nomark _))))))) pss_nil), ?_⟩
    exact (q_ret (eo_and (eo_op2 rv_ne (eo_var rfl rp0) (eo_var rfl rp1)) (eo_or (eo_op2 rv_eq (eo_op2 rv_get (eo_var rfl rp0) eo_int) (eo_op2 rv_get (eo_var rfl rp1) eo_int)) (eo_op2 rv_eq (eo_op2 rv_get (eo_var rfl rp0) eo_int) (eo_op2 rv_get (eo_var rfl rp1) eo_int)))) hM (Go.refl sB) k)
/-! _law_row_right -/
abbrev s_law_row_right : Stmt := top 36
abbrev N_law_row_right : List Str := ["_law_row_here", "_law_pairs_here", "_law_at", "_law_pair", "_law_k", "_law_near", "_law_lone"]
theorem sc_law_row_right : FnScope N_law_row_right ["_law_row_here", "_law_pairs_here"] (defScope s_law_row_right) := ⟨rfl, rfl, rfl, by decide +kernel, rfl, by decide +kernel, by decide +kernel⟩
def m_law_row_right (p0 : U) (p1 : U) : Option U := ((compO (fun u4 => (some true)) (fun u4 => (op2 lidxV (some p1) (some u4))) (iterO U.iter (some p0))).bind fun x7 => (ifO (testO (op2 neV2 (compO (fun u17 => (notO (testO (callO (a2 m_law_beside) (consO (op2 getV (some p0) (op2 subV (some u17) (some (U.int 1)))) (consO (op2 getV (some p0) (some u17)) (some []))))))) (fun u17 => (some u17)) (rngO rng2 (consO (some (U.int 1)) (consO (callO lenV (consO (some p0) (some []))) (some []))))) (lstO (some [])))) (some (U.bl false)) ((compO (fun u33 => (testO (callO (a2 m_law_beside) (consO (some u33) (consO (op2 getV (some p0) (some (U.int 0))) (some [])))))) (fun u33 => (some u33)) (iterO U.iter (some p0))).bind fun x36 => ((compO (fun u46 => (orO (testO (callO (a2 m_law_beside) (consO (some u46) (consO (op2 getV (some p0) (some (U.int 0))) (some []))))) (testO (callO (a2 m_law_beside) (consO (some u46) (consO (op2 getV (some p0) (op1 negV (some (U.int 1)))) (some []))))))) (fun u46 => (some u46)) (iterO U.iter (some p1))).bind fun x49 => (ifO (testO (op2 neV2 (compO (fun u59 => (testO (op2 notInV2 (some u59) (some p0)))) (fun u59 => (some u59)) (iterO U.iter (some x49))) (lstO (some [])))) (some (U.bl false)) (ifO (andO (testO (op2 gtV (callO lenV (consO (some p0) (some []))) (some (U.int 2)))) (testO (callO (a2 m_law_beside) (consO (op2 getV (some p0) (some (U.int 0))) (consO (op2 getV (some p0) (op1 negV (some (U.int 1)))) (some [])))))) (andV (op2 eqV2 (op2 getV (some x7) (some (U.int 0))) (callO minA (consO (some x7) (some [])))) (op2 eqV2 (op2 getV (some x7) (some (U.int 1))) (callO minA (consO (compO (fun u85 => (some true)) (fun u85 => (op2 lidxV (some p1) (some u85))) (iterO U.iter (some x36))) (some []))))) (andV (op2 leV (op2 getV (some x7) (some (U.int 0))) (op2 getV (some x7) (op1 negV (some (U.int 1))))) (op2 eqV2 (callO lenV (consO (some x36) (some []))) (callO minU (consO (some (U.int 1)) (consO (op2 subV (callO lenV (consO (some p0) (some []))) (some (U.int 1))) (some []))))))))))))
theorem ok_law_row_right (T : Tx w K mg a d) : FnOk P w K mg base CX0 2 (a 36) (d 36) ["_law_row_here", "_law_pairs_here"] (spU (a2 m_law_row_right)) := by
  refine T.f_law_row_right.ok sc_law_row_right (fun vs H Q E h => ?_) (fun cdv A outer s H vs Q E hr h => ?_)
  · obtain ⟨B, p0, p1, vp0, vp1, r, rfl, _⟩ := sp2 h
    rfl
  · obtain ⟨B, p0, p1, vp0, vp1, r, rfl, sB, rp0, rp1, hM, k⟩ := sp2 h
    have nd := sc_law_row_right.nd
    refine ⟨_, (pss_cons (ps_setLc (i := 2) (own := [("_law_pair", 3)]) (g := gName 3) (tt := tYes) (by rfl) nd rfl rfl (sw_true rfl rfl rfl (by decide +kernel)) (pi_anyK (K := K) rfl (pv 0)) (blkOk_by (own := [("_law_pair", 3)]) (N := N_law_row_right) (sc := defScope s_law_row_right) (by decide +kernel)) (fun _ _ _ _ _ => pg_name (i := 3) nd rfl (Or.inl rfl)) (fun _ _ _ _ _ => pts_nil) (fun _ _ _ _ _ => (pe_lidx (K := K) rfl hr.units (pv 1) (pa_cons (pv 3) pa_nil)))) (pss_cons (ps_if (pt_cmpR (op_neU hr.units) (pe_lc (own := [("_law_k", 4)]) (g := gName 4) (by rfl) nd (pi_range2 (by rfl) T.b_range (pa_cons pe_int (pa_cons (pe_callB (call_lenK (K := K) rfl) (by rfl) T.b_len bb_len (pa_cons (pv 0) pa_nil)) pa_nil))) (blkOk_by (own := [("_law_k", 4)]) (N := N_law_row_right) (sc := defScope s_law_row_right) (by decide +kernel)) (fun _ _ _ _ _ => pg_name (i := 4) nd rfl (Or.inl rfl)) (fun _ _ _ _ _ => (pts_one (pt_not (pt_val (pe_call (ok_law_beside T) (hr.mono (by decide)) (by rfl) T.g_law_beside T.f_law_beside.kp T.bd_law_beside .nil pass0 (pa_cons (pe_ix (ix_anyK (K := K) rfl hr.units) (pv 0) (pe_op op_sub (pv 4) pe_int) (fun _ _ => rfl)) (pa_cons (pe_ix (ix_anyK (K := K) rfl hr.units) (pv 0) (pv 4) (fun _ _ => rfl)) pa_nil))))))) (fun _ _ _ _ _ => (pv 4))) (pe_lst pa_nil) (nomark _)) (pss_cons (ps_ret pe_bl) pss_nil) pss_nil) (pss_cons (ps_setLc (i := 5) (own := [("_law_pair", 3)]) (g := gName 3) (by rfl) nd rfl rfl (sw_true rfl rfl rfl (by decide +kernel)) (pi_anyK (K := K) rfl (pv 0)) (blkOk_by (own := [("_law_pair", 3)]) (N := N_law_row_right) (sc := defScope s_law_row_right) (by decide +kernel)) (fun _ _ _ _ _ => pg_name (i := 3) nd rfl (Or.inl rfl)) (fun _ _ _ _ _ => (pts_one (pt_val (pe_call (ok_law_beside T) (hr.mono (by decide)) (by rfl) T.g_law_beside T.f_law_beside.kp T.bd_law_beside .nil pass0 (pa_cons (pv 3) (pa_cons (pe_ix (ix_anyK (K := K) rfl hr.units) (pv 0) pe_int (fun _ _ => rfl)) pa_nil)))))) (fun _ _ _ _ _ => (pv 3))) (pss_cons (ps_setLc (i := 6) (own := [("_law_pair", 3)]) (g := gName 3) (by rfl) nd rfl rfl (sw_true rfl rfl rfl (by decide +kernel)) (pi_anyK (K := K) rfl (pv 1)) (blkOk_by (own := [("_law_pair", 3)]) (N := N_law_row_right) (sc := defScope s_law_row_right) (by decide +kernel)) (fun _ _ _ _ _ => pg_name (i := 3) nd rfl (Or.inl rfl)) (fun _ _ _ _ _ => (pts_one (PW.pt (pw_or (pt_val (pe_call (ok_law_beside T) (hr.mono (by decide)) (by rfl) T.g_law_beside T.f_law_beside.kp T.bd_law_beside .nil pass0 (pa_cons (pv 3) (pa_cons (pe_ix (ix_anyK (K := K) rfl hr.units) (pv 0) pe_int (fun _ _ => rfl)) pa_nil)))) (pw_or1 (pt_val (pe_call (ok_law_beside T) (hr.mono (by decide)) (by rfl) T.g_law_beside T.f_law_beside.kp T.bd_law_beside .nil pass0 (pa_cons (pv 3) (pa_cons (pe_ix (ix_anyK (K := K) rfl hr.units) (pv 0) (pe_un un_neg pe_int) (fun _ _ => rfl)) pa_nil))))))))) (fun _ _ _ _ _ => (pv 3))) (pss_cons (ps_if (pt_cmpR (op_neU hr.units) (pe_lc (own := [("_law_pair", 3)]) (g := gName 3) (by rfl) nd (pi_anyK (K := K) rfl (pv 6)) (blkOk_by (own := [("_law_pair", 3)]) (N := N_law_row_right) (sc := defScope s_law_row_right) (by decide +kernel)) (fun _ _ _ _ _ => pg_name (i := 3) nd rfl (Or.inl rfl)) (fun _ _ _ _ _ => (pts_one (pt_cmpR (op_notInA hr.units) (pv 3) (pv 0) (by rfl)))) (fun _ _ _ _ _ => (pv 3))) (pe_lst pa_nil) (nomark _)) (pss_cons (ps_ret pe_bl) pss_nil) pss_nil) (pss_cons (ps_if (PW.pt (pw_and (pt_cmpR op_gt (pe_callB (call_lenK (K := K) rfl) (by rfl) T.b_len bb_len (pa_cons (pv 0) pa_nil)) pe_int (nomark _)) (pw_and1 (pt_val (pe_call (ok_law_beside T) (hr.mono (by decide)) (by rfl) T.g_law_beside T.f_law_beside.kp T.bd_law_beside .nil pass0 (pa_cons (pe_ix (ix_anyK (K := K) rfl hr.units) (pv 0) pe_int (fun _ _ => rfl)) (pa_cons (pe_ix (ix_anyK (K := K) rfl hr.units) (pv 0) (pe_un un_neg pe_int) (fun _ _ => rfl)) pa_nil))))))) (pss_cons (ps_ret (pe_and (pe_cmpR (op_eqU hr.units) (pe_ix (ix_anyK (K := K) rfl hr.units) (pv 2) pe_int (fun _ _ => rfl)) (pe_callB (call_minK (K := K) rfl rfl) (by rfl) T.b_min bb_min (pa_cons (pv 2) pa_nil)) (nomark _)) (pe_one (pe_cmpR (op_eqU hr.units) (pe_ix (ix_anyK (K := K) rfl hr.units) (pv 2) pe_int (fun _ _ => rfl)) (pe_callB (call_minK (K := K) rfl rfl) (by rfl) T.b_min bb_min (pa_cons (pe_lc (own := [("_law_pair", 3)]) (g := gName 3) (tt := tYes) (by rfl) nd (pi_anyK (K := K) rfl (pv 5)) (blkOk_by (own := [("_law_pair", 3)]) (N := N_law_row_right) (sc := defScope s_law_row_right) (by decide +kernel)) (fun _ _ _ _ _ => pg_name (i := 3) nd rfl (Or.inl rfl)) (fun _ _ _ _ _ => pts_nil) (fun _ _ _ _ _ => (pe_lidx (K := K) rfl hr.units (pv 1) (pa_cons (pv 3) pa_nil)))) pa_nil)) (nomark _))))) pss_nil) pss_nil) (pss_cons (ps_ret (pe_and (pe_cmpR op_le (pe_ix (ix_anyK (K := K) rfl hr.units) (pv 2) pe_int (fun _ _ => rfl)) (pe_ix (ix_anyK (K := K) rfl hr.units) (pv 2) (pe_un un_neg pe_int) (fun _ _ => rfl)) (nomark _)) (pe_one (pe_cmpR (op_eqU hr.units) (pe_callB (call_lenK (K := K) rfl) (by rfl) T.b_len bb_len (pa_cons (pv 5) pa_nil)) (pe_callB (call_min2 rfl) (by rfl) T.b_min bb_min (pa_cons pe_int (pa_cons (pe_op op_sub (pe_callB (call_lenK (K := K) rfl) (by rfl) T.b_len bb_len (pa_cons (pv 0) pa_nil)) pe_int) pa_nil))) (nomark _))))) pss_nil))))))), ?_⟩
    exact (q_asg sB (eo_lc (ei_any (eo_var rfl rp0)) (fun _ => rfl) (fun u4 v5 B2 H3 g1 r6 => et_yes) (fun u4 v5 B2 H3 g1 r6 => (eo_lidx (eo_var rfl (rp1.upA g1)) (eo_var rfl r6)))) hM fun x7 v8 B9 H10 g13 r12 h11 => (q_if g13.bh (et_test (eo_op2 rv_ne (eo_lc (ei_rng2 (ea_cons eo_int (ea_cons (eo_cb' rc_len (ea_cons (eo_var rfl (rp0.up g13)) ea_nil)) ea_nil))) (fun _ => rfl) (fun u17 v18 B15 H16 g14 r19 => (et_not (et_B (eo_call (ea_cons (eo_op2 rv_get (eo_var rfl ((rp0.up g13).upA g14)) (eo_op2 rv_sub (eo_var rfl r19) eo_int)) (ea_cons (eo_op2 rv_get (eo_var rfl ((rp0.up g13).upA g14)) (eo_var rfl r19)) ea_nil)))))) (fun u17 v18 B15 H16 g14 r19 => (eo_var rfl r19))) (eo_lst ea_nil))) h11 (fun e26 h22 B20 H21 g28 => (q_ret eo_bl h22 (((Go.refl sB).trans g13).trans g28) k)) (fun e27 h25 B23 H24 g29 => (q_asg g29.bh (eo_lc (ei_any (eo_var rfl ((rp0.up g13).up g29))) (fun _ => rfl) (fun u33 v34 B31 H32 g30 r35 => (et_B (eo_call (ea_cons (eo_var rfl r35) (ea_cons (eo_op2 rv_get (eo_var rfl (((rp0.up g13).up g29).upA g30)) eo_int) ea_nil))))) (fun u33 v34 B31 H32 g30 r35 => (eo_var rfl r35))) h25 fun x36 v37 B38 H39 g42 r41 h40 => (q_asg g42.bh (eo_lc (ei_any (eo_var rfl (((rp1.up g13).up g29).up g42))) (fun _ => rfl) (fun u46 v47 B44 H45 g43 r48 => (et_or (et_B (eo_call (ea_cons (eo_var rfl r48) (ea_cons (eo_op2 rv_get (eo_var rfl ((((rp0.up g13).up g29).up g42).upA g43)) eo_int) ea_nil)))) (et_B (eo_call (ea_cons (eo_var rfl r48) (ea_cons (eo_op2 rv_get (eo_var rfl ((((rp0.up g13).up g29).up g42).upA g43)) (eo_op1 ru_neg eo_int)) ea_nil)))))) (fun u46 v47 B44 H45 g43 r48 => (eo_var rfl r48))) h40 fun x49 v50 B51 H52 g55 r54 h53 => (q_if g55.bh (et_test (eo_op2 rv_ne (eo_lc (ei_any (eo_var rfl r54)) (fun _ => rfl) (fun u59 v60 B57 H58 g56 r61 => (et_test (eo_op2 rv_notIn (eo_var rfl r61) (eo_var rfl (((((rp0.up g13).up g29).up g42).up g55).upA g56))))) (fun u59 v60 B57 H58 g56 r61 => (eo_var rfl r61))) (eo_lst ea_nil))) h53 (fun e68 h64 B62 H63 g70 => (q_ret eo_bl h64 ((((((Go.refl sB).trans g13).trans g29).trans g42).trans g55).trans g70) k)) (fun e69 h67 B65 H66 g71 => (q_if g71.bh (et_and (et_test (eo_op2 rv_gt (eo_cb' rc_len (ea_cons (eo_var rfl (((((rp0.up g13).up g29).up g42).up g55).up g71)) ea_nil)) eo_int)) (et_B (eo_call (ea_cons (eo_op2 rv_get (eo_var rfl (((((rp0.up g13).up g29).up g42).up g55).up g71)) eo_int) (ea_cons (eo_op2 rv_get (eo_var rfl (((((rp0.up g13).up g29).up g42).up g55).up g71)) (eo_op1 ru_neg eo_int)) ea_nil))))) h67 (fun e78 h74 B72 H73 g80 => (q_ret (eo_and (eo_op2 rv_eq (eo_op2 rv_get (eo_var rfl (((((r12.up g29).up g42).up g55).up g71).up g80)) eo_int) (eo_cb' rc_minA (ea_cons (eo_var rfl (((((r12.up g29).up g42).up g55).up g71).up g80)) ea_nil))) (eo_op2 rv_eq (eo_op2 rv_get (eo_var rfl (((((r12.up g29).up g42).up g55).up g71).up g80)) eo_int) (eo_cb' rc_minA (ea_cons (eo_lc (ei_any (eo_var rfl (((r41.up g55).up g71).up g80))) (fun _ => rfl) (fun u85 v86 B83 H84 g82 r87 => et_yes) (fun u85 v86 B83 H84 g82 r87 => (eo_lidx (eo_var rfl (((((((rp1.up g13).up g29).up g42).up g55).up g71).up g80).upA g82)) (eo_var rfl r87)))) ea_nil)))) h74 (((((((Go.refl sB).trans g13).trans g29).trans g42).trans g55).trans g71).trans g80) k)) (fun e79 h77 B75 H76 g81 => (q_ret (eo_and (eo_op2 rv_le (eo_op2 rv_get (eo_var rfl (((((r12.up g29).up g42).up g55).up g71).up g81)) eo_int) (eo_op2 rv_get (eo_var rfl (((((r12.up g29).up g42).up g55).up g71).up g81)) (eo_op1 ru_neg eo_int))) (eo_op2 rv_eq (eo_cb' rc_len (ea_cons (eo_var rfl (((r41.up g55).up g71).up g81)) ea_nil)) (eo_cb' rc_min (ea_cons eo_int (ea_cons (eo_op2 rv_sub (eo_cb' rc_len (ea_cons (eo_var rfl ((((((rp0.up g13).up g29).up g42).up g55).up g71).up g81)) ea_nil)) eo_int) ea_nil))))) h77 (((((((Go.refl sB).trans g13).trans g29).trans g42).trans g55).trans g71).trans g81) k))))))))))
/-! _law_right -/
abbrev s_law_right : Stmt := top 37
abbrev N_law_right : List Str := ["_law_purse_here", "_law_size", "_law_rows_here", "_law_wrong", "_law_row_here", "_law_firsts", "_law_log", "_law_pairs_here", "_law_told", "_law_flat", "_law_k", "_law_others", "_law_pair", "_law_each"]
def m_law_right_l4 (u241 : U) (x52 : U) (x53 : U) (u240 : U) (x253 : U) (kL262 : SM U) : List U → SM U
  | [] => kL262
  | u285 :: l286 => (ifS (pureS (testO (op2 neV2 (compO (fun u302 => (testO (callO (a2 m_law_beside) (consO (some u302) (consO (some u285) (some [])))))) (fun u302 => (some u302)) (iterO U.iter (some x253))) (lstO (some []))))) (pureS (some (U.bl false))) (ifS (pureS (testO (op2 neV2 (lstO (consO (callO (a3 m_zigzag_of) (consO (some x52) (consO (op2 getV (some u285) (some (U.int 0))) (consO (op2 getV (some u285) (some (U.int 1))) (some []))))) (consO (callO (fun xs => if xs.length = 3 then (a3 m_zigzag_of) xs.reverse else none) (consO (op2 getV (some u285) (some (U.int 1))) (consO (op2 getV (some u285) (some (U.int 0))) (consO (some x52) (some []))))) (some [])))) (lstO (consO (some u240) (consO (some u240) (some []))))))) (pureS (some (U.bl false))) (m_law_right_l4 u241 x52 x53 u240 x253 kL262 l286)))
def m_law_right_l3 (x52 : U) (x53 : U) (kL200 : SM U) : List U → SM U
  | [] => kL200
  | u226 :: l227 => (unpS u226 fun u240 u241 => (bindS (pureS (compO (fun u250 => (testO (op2 notInV2 (some u250) (some u241)))) (fun u250 => (some u250)) (iterO U.iter (some x53)))) fun x253 => (withK (m_law_right_l3 x52 x53 kL200 l227) fun kL262 => (bindS (pureS (iterO U.iter (some u241))) fun xs265 => m_law_right_l4 u241 x52 x53 u240 x253 kL262 xs265))))
def m_law_right_l2 (x52 : U) (x53 : U) (x64 : U) (kL103 : U → SM U) : List U → U → SM U
  | [], x158 => kL103 x158
  | u129 :: l130, x141 => (bindS (pureS (op2 addV (some x141) (callO (c1 listB) (consO (some u129) (some []))))) fun x146 => (m_law_right_l2 x52 x53 x64 kL103 l130 (x146)))
def m_law_right_l1 (kL1 : SM U) : List U → SM U
  | [] => kL1
  | u29 :: l30 => (bindS (bindS (consS (opS addV (pureS (some (U.int 1))) (bindS (pureS (consO (some u29) (some []))) fun xs => callM 0 (b1 m_law_draw) xs)) (consS (pureS (some (U.int 20))) (pureS (some [])))) fun xs => callM 0 (b2 m_law_rows) xs) fun x43 => (bindS (pureS (tupO (consO (callO (mkF 0 m_Web_init) (consO (callO (a1 m_law_said) (consO (some x43) (some []))) (some []))) (consO (callO (a1 m_law_pairs) (consO (some x43) (some []))) (some []))))) fun u => unpS u fun x52 x53 => (bindS (pureS (consO (callO (a1 m_zigzags) (consO (some x52) (some []))) (consO (lstO (some [])) (some [])))) fun xs => parS xs fun x64 x65 => (bindS (pureS (compO (fun u79 => (notO (testO (callO (a2 m_law_row_right) (consO (some u79) (consO (some x53) (some []))))))) (fun u79 => (some u79)) (iterO U.iter (some x64)))) fun x82 => (ifS (pureS (orO (testO (op2 neV2 (callO (fun xs => if xs.length = 1 then (a1 m_zigzags) xs.reverse else none) (consO (some x52) (some []))) (some x64))) (testO (op2 neV2 (some x82) (lstO (some [])))))) (pureS (some (U.bl false))) (withK (fun x158 => (bindS (pureS (compO (fun u170 => (some true)) (fun u170 => (callO minA (consO (compO (fun u176 => (some true)) (fun u176 => (op2 lidxV (some x53) (some u176))) (iterO U.iter (some u170))) (some [])))) (iterO U.iter (some x64)))) fun x179 => (ifS (pureS (orO (testO (op2 neV2 (callO (c1 sortedV) (consO (some x158) (some []))) (callO (c1 sortedV) (consO (some x53) (some []))))) (testO (op2 neV2 (some x179) (callO (c1 sortedV) (consO (some x179) (some []))))))) (pureS (some (U.bl false))) (withK (m_law_right_l1 kL1 l30) fun kL200 => (bindS (pureS (enumO (some x64))) fun xs203 => m_law_right_l3 x52 x53 kL200 xs203))))) fun kL103 => (bindS (pureS (iterO U.iter (some x64))) fun xs106 => m_law_right_l2 x52 x53 x64 kL103 xs106 (x65))))))))
theorem sc_law_right : FnScope N_law_right ["_law_purse_here"] (defScope s_law_right) := ⟨rfl, rfl, rfl, by decide +kernel, rfl, by decide +kernel, by decide +kernel⟩
def m_law_right : SM U := (withK (pureS (some (U.bl true))) fun kL1 => (bindS (pureS (iterO U.iter (lstO (consO (some (U.int 4)) (consO (some (U.int 9)) (consO (some (U.int 20)) (consO (some (U.int 40)) (some [])))))))) fun xs4 => m_law_right_l1 kL1 xs4))
theorem ok_law_right (T : Tx w K mg a d) : FnOk P w K mg base CX0 7 (a 37) (d 37) ["_law_purse_here"] (spS (b0 m_law_right)) := by
  refine T.f_law_right.ok sc_law_right (fun vs H Q E h => ?_) (fun cdv A outer s H vs Q E hr h => ?_)
  · obtain ⟨B, p, u, R, rfl, _⟩ := ss0 h
    rfl
  · obtain ⟨B, p, u, R, rfl, sB, W, hM, k⟩ := ss0 h
    have nd := sc_law_right.nd
    refine ⟨_, (pss_cons (ps_for PassesOwn.never rfl (pi_anyK (K := K) rfl (pe_lst (pa_cons pe_int (pa_cons pe_int (pa_cons pe_int (pa_cons pe_int pa_nil)))))) (pg_name (i := 1) nd rfl (Or.inl rfl)) (pss_cons (ps_set (i := 2) nd rfl (Or.inl rfl) (pe_call (ok_law_rows T) (hr.mono (by decide)) (by rfl) T.g_law_rows T.f_law_rows.kp T.bd_law_rows .nil pass0 (pa_cons (pv 0) (pa_cons (pe_op (op_addK (K := K) rfl) pe_int (pe_call (ok_law_draw T) (hr.mono (by decide)) (by rfl) T.g_law_draw T.f_law_draw.kp T.bd_law_draw .nil pass0 (pa_cons (pv 0) (pa_cons (pv 1) pa_nil)))) (pa_cons pe_int pa_nil))))) (pss_cons (ps_asg (pe_tup (pa_cons (pe_make T.mk_Web (ok_Web_init T) (hr.mono (by decide)) (by rfl) T.g_Web T.bd_Web___init__ .nil pass0 (pa_cons (pe_call (ok_law_said T) (hr.mono (by decide)) (by rfl) T.g_law_said T.f_law_said.kp T.bd_law_said .nil pass0 (pa_cons (pv 2) pa_nil)) pa_nil)) (pa_cons (pe_call (ok_law_pairs T) (hr.mono (by decide)) (by rfl) T.g_law_pairs T.f_law_pairs.kp T.bd_law_pairs .nil pass0 (pa_cons (pv 2) pa_nil)) pa_nil))) (pg_tupK (K := K) rfl (by rfl) (pgs_cons (pg_name (i := 6) nd rfl (Or.inl rfl)) (pgs_cons (pg_name (i := 7) nd rfl (Or.inr rfl)) pgs_nil)))) (pss_cons (ps_par (i := 8) (j := 9) (by rfl) nd rfl rfl (by decide) rfl rfl (pa_cons (pe_call (ok_zigzags T) (hr.mono (by decide)) (by rfl) T.g_zigzags T.f_zigzags.kp T.bd_zigzags .nil pass0 (pa_cons (pv 6) pa_nil)) (pa_cons (pe_lst pa_nil) pa_nil)) (by rfl)) (pss_cons (ps_setLc (i := 3) (own := [("_law_row_here", 4)]) (g := gName 4) (by rfl) nd rfl rfl (sw_true rfl rfl rfl (by decide +kernel)) (pi_anyK (K := K) rfl (pv 8)) (blkOk_by (own := [("_law_row_here", 4)]) (N := N_law_right) (sc := defScope s_law_right) (by decide +kernel)) (fun _ _ _ _ _ => pg_name (i := 4) nd rfl (Or.inl rfl)) (fun _ _ _ _ _ => (pts_one (pt_not (pt_val (pe_call (ok_law_row_right T) (hr.mono (by decide)) (by rfl) T.g_law_row_right T.f_law_row_right.kp T.bd_law_row_right .nil pass0 (pa_cons (pv 4) (pa_cons (pv 7) pa_nil))))))) (fun _ _ _ _ _ => (pv 4))) (pss_cons (ps_if (PW.pt (pw_or (pt_cmpR (op_neU hr.units) (pe_callN0 (ok_zigzags T) (hr.mono (by decide)) (by rfl) T.g_zigzags T.f_zigzags.kp (kb1r T.f_zigzags (fun _ _ _ _ _ _ _ => rfl)) pass0 (pk_cons (pv 6) pk_nil)) (pv 8) (nomark _)) (pw_or1 (pt_cmpR (op_neU hr.units) (pv 3) (pe_lst pa_nil) (nomark _))))) (pss_cons (ps_ret pe_bl) pss_nil) pss_nil) (pss_cons (ps_for PassesOwn.never rfl (pi_anyK (K := K) rfl (pv 8)) (pg_name (i := 4) nd rfl (Or.inr rfl)) (pss_cons (ps_set (i := 9) nd rfl (Or.inl rfl) (pe_op (op_addK (K := K) rfl) (pv 9) (pe_callTy (call_listK (K := K) rfl rfl) (by rfl) T.b_list bb_list (pa_cons (pv 4) pa_nil)))) pss_nil)) (pss_cons (ps_setLc (i := 5) (own := [("_law_row_here", 4)]) (g := gName 4) (tt := tYes) (by rfl) nd rfl rfl (sw_true rfl rfl rfl (by decide +kernel)) (pi_anyK (K := K) rfl (pv 8)) (blkOk_by (own := [("_law_row_here", 4)]) (N := N_law_right) (sc := defScope s_law_right) (by decide +kernel)) (fun _ _ _ _ _ => pg_name (i := 4) nd rfl (Or.inl rfl)) (fun _ _ _ _ _ => pts_nil) (fun _ _ _ _ _ => (pe_callB (call_minK (K := K) rfl rfl) (by rfl) T.b_min bb_min (pa_cons (pe_lc (own := [("_law_pair", 12)]) (g := gName 12) (tt := tYes) (by rfl) nd (pi_anyK (K := K) rfl (pv 4)) (blkOk_by (own := [("_law_pair", 12)]) (N := N_law_right) (by kernel_rfl)) (fun _ _ _ _ _ => pg_name (i := 12) nd rfl (Or.inl rfl)) (fun _ _ _ _ _ => pts_nil) (fun _ _ _ _ _ => (pe_lidx (K := K) rfl hr.units (pv 7) (pa_cons (pv 12) pa_nil)))) pa_nil)))) (pss_cons (ps_if (PW.pt (pw_or (pt_cmpR (op_neU hr.units) (pe_callB (cr_sortD (K := K) rfl hr.units) (by rfl) T.b_sorted bb_sorted (pa_cons (pv 9) pa_nil)) (pe_callB (cr_sortD (K := K) rfl hr.units) (by rfl) T.b_sorted bb_sorted (pa_cons (pv 7) pa_nil)) (nomark _)) (pw_or1 (pt_cmpR (op_neU hr.units) (pv 5) (pe_callB (cr_sortD (K := K) rfl hr.units) (by rfl) T.b_sorted bb_sorted (pa_cons (pv 5) pa_nil)) (nomark _))))) (pss_cons (ps_ret pe_bl) pss_nil) pss_nil) (pss_cons (ps_for PassesOwn.never rfl (pi_enumU (K := K) rfl (by rfl) T.b_enumerate (pv 8)) (pg_tupK (K := K) rfl (by rfl) (pgs_cons (pg_name (i := 10) nd rfl (Or.inl rfl)) (pgs_cons (pg_name (i := 4) nd rfl (Or.inr rfl)) pgs_nil))) (pss_cons (ps_setLc (i := 11) (own := [("_law_pair", 12)]) (g := gName 12) (by rfl) nd rfl rfl (sw_true rfl rfl rfl (by decide +kernel)) (pi_anyK (K := K) rfl (pv 7)) (blkOk_by (own := [("_law_pair", 12)]) (N := N_law_right) (sc := defScope s_law_right) (by decide +kernel)) (fun _ _ _ _ _ => pg_name (i := 12) nd rfl (Or.inl rfl)) (fun _ _ _ _ _ => (pts_one (pt_cmpR (op_notInA hr.units) (pv 12) (pv 4) (by rfl)))) (fun _ _ _ _ _ => (pv 12))) (pss_cons (ps_for PassesOwn.never rfl (pi_anyK (K := K) rfl (pv 4)) (pg_name (i := 12) nd rfl (Or.inr rfl)) (pss_cons (ps_if (pt_cmpR (op_neU hr.units) (pe_lc (own := [("_law_each", 13)]) (g := gName 13) (by rfl) nd (pi_anyK (K := K) rfl (pv 11)) (blkOk_by (own := [("_law_each", 13)]) (N := N_law_right) (sc := defScope s_law_right) (by decide +kernel)) (fun _ _ _ _ _ => pg_name (i := 13) nd rfl (Or.inl rfl)) (fun _ _ _ _ _ => (pts_one (pt_val (pe_call (ok_law_beside T) (hr.mono (by decide)) (by rfl) T.g_law_beside T.f_law_beside.kp T.bd_law_beside .nil pass0 (pa_cons (pv 13) (pa_cons (pv 12) pa_nil)))))) (fun _ _ _ _ _ => (pv 13))) (pe_lst pa_nil) (nomark _)) (pss_cons (ps_ret pe_bl) pss_nil) pss_nil) (pss_cons (ps_if (pt_cmpR (op_neU hr.units) (pe_lst (pa_cons (pe_call (ok_zigzag_of T) (hr.mono (by decide)) (by rfl) T.g_zigzag_of T.f_zigzag_of.kp T.bd_zigzag_of .nil pass0 (pa_cons (pv 6) (pa_cons (pe_ix (ix_anyK (K := K) rfl hr.units) (pv 12) pe_int (fun _ _ => rfl)) (pa_cons (pe_ix (ix_anyK (K := K) rfl hr.units) (pv 12) pe_int (fun _ _ => rfl)) pa_nil)))) (pa_cons (pe_callN0 (ok_zigzag_of T) (hr.mono (by decide)) (by rfl) T.g_zigzag_of T.f_zigzag_of.kp (kb3r T.f_zigzag_of (fun _ _ _ _ _ _ _ _ _ => rfl)) pass0 (pk_cons (pe_ix (ix_anyK (K := K) rfl hr.units) (pv 12) pe_int (fun _ _ => rfl)) (pk_cons (pe_ix (ix_anyK (K := K) rfl hr.units) (pv 12) pe_int (fun _ _ => rfl)) (pk_cons (pv 6) pk_nil)))) pa_nil))) (pe_lst (pa_cons (pv 10) (pa_cons (pv 10) pa_nil))) (nomark _)) (pss_cons (ps_ret pe_bl) pss_nil) pss_nil) pss_nil))) pss_nil))) pss_nil)))))))))) (pss_cons (ps_ret pe_bl) pss_nil)), ?_⟩
    exact (q_withS hM fun kL1 ekL2 h3 => q_forS W (eis_of (H := H) (ei_any (eo_lst (ea_cons eo_int (ea_cons eo_int (ea_cons eo_int (ea_cons eo_int ea_nil))))))) h3 fun xs4 B5 H6 us8 W9 s10 h7 => ⟨fun l11 sg12 B13 H14 => ∃ (o15 : Option V) (o16 : Option V) (o17 : Option V) (o18 : Option V) (o19 : Option V) (o20 : Option V) (o21 : Option V) (o22 : Option V) (o23 : Option V) (o24 : Option V) (o25 : Option V) (o26 : Option V) (o27 : Option V) (us28 : List U), sg12 = [some (.ref p), o15, o16, o17, o18, o19, o20, o21, o22, o23, o24, o25, o26, o27] ∧ Same B5 B13 ∧ Wh (bsM B H p) B13 H14 [p] us28 ∧ m_law_right_l1 kL1 l11 us28 = some R, ⟨_, _, _, _, _, _, _, _, _, _, _, _, _, us8, rfl, Same.refl _, W9, h7⟩, fun _ _ _ _ ⟨_, _, _, _, _, _, _, _, _, _, _, _, _, _, _, sX, WX, _⟩ => ⟨sX, WX.s⟩, fun u29 l30 v31 sg359 B32 H33 B34 H35 hR g36 r37 => (by obtain ⟨_, _, _, _, _, _, _, _, _, _, _, _, _, us41, rfl, s39, W42, h40⟩ := hR; exact (q_asgS (W42.go g36) (es_callM (j := 0) rfl rfl (eas_cons (es_op2 rv_add (es_of (H := H) eo_int) (es_callM (j := 0) rfl rfl (eas_of (H := H) (ea_cons (eo_var rfl r37) ea_nil)))) (eas_cons (es_of (H := H) eo_int) eas_nil))) h40 fun x43 v44 B45 H46 us49 W50 s51 r48 h47 => (q_twoS W50 (es_of (H := H) (eo_tup (ea_cons (eo_make (ea_cons (eo_call (ea_cons (eo_var rfl r48) ea_nil)) ea_nil)) (ea_cons (eo_call (ea_cons (eo_var rfl r48) ea_nil)) ea_nil)))) h47 fun x52 x53 v54 v55 B56 H57 us61 W62 s63 r58 r59 h60 => (q_parS W62 (eas_of (H := H) (ea_cons (eo_call (ea_cons (eo_var rfl r58) ea_nil)) (ea_cons (eo_lst ea_nil) ea_nil))) h60 fun x64 x65 v66 v67 B68 H69 us73 W74 s75 r70 r71 h72 => (q_asgS W74 (es_of (H := H) (eo_lc (ei_any (eo_var rfl r70)) (fun _ => rfl) (fun u79 v80 B77 H78 g76 r81 => (et_not (et_B (eo_call (ea_cons (eo_var rfl r81) (ea_cons (eo_var rfl ((r59.sm s75).upA g76)) ea_nil)))))) (fun u79 v80 B77 H78 g76 r81 => (eo_var rfl r81)))) h72 fun x82 v83 B84 H85 us88 W89 s90 r87 h86 => (q_ifS W89 (ets_of (H := H) (et_or (et_test (eo_op2 rv_ne (eo_callR (ea_cons (eo_var rfl ((r58.sm s75).sm s90)) ea_nil)) (eo_var rfl (r70.sm s90)))) (et_test (eo_op2 rv_ne (eo_var rfl r87) (eo_lst ea_nil))))) h86 (fun B91 H92 us97 W98 s99 h93 => (q_retS W98 (es_of (H := H) eo_bl) h93 k)) (fun B94 H95 us100 W101 s102 h96 => (q_withS h96 fun kL103 ekL104 h105 => q_forS W101 (eis_of (H := H) (ei_any (eo_var rfl ((r70.sm s90).sm s102)))) h105 fun xs106 B107 H108 us110 W111 s112 h109 => ⟨fun l113 sg114 B115 H116 => ∃ (o117 : Option V) (o118 : Option V) (o119 : Option V) (o120 : Option V) (o121 : Option V) (x122 : U) (v123 : V) (o124 : Option V) (o125 : Option V) (o126 : Option V) (o127 : Option V) (us128 : List U), sg114 = [some (.ref p), o117, o118, o119, o120, o121, some v54, some v55, some v66, some v123, o124, o125, o126, o127] ∧ Same B107 B115 ∧ Rp B115 x122 v123 ∧ Wh (bsM B H p) B115 H116 [p] us128 ∧ m_law_right_l2 x52 x53 x64 kL103 l113 x122 us128 = some R, ⟨_, _, _, _, _, x65, _, _, _, _, _, us110, rfl, Same.refl _, (((r71.sm s90).sm s102).sm s112), W111, h109⟩, fun _ _ _ _ ⟨_, _, _, _, _, _, _, _, _, _, _, _, _, sX, _, WX, _⟩ => ⟨sX, WX.s⟩, fun u129 l130 v131 sg349 B132 H133 B134 H135 hR g136 r137 => (by obtain ⟨_, _, _, _, _, x141, v142, _, _, _, _, us144, rfl, s139, r143, W145, h140⟩ := hR; exact (q_asgS (W145.go g136) (es_of (H := H) (eo_op2 rv_add (eo_var rfl (r143.up g136)) (eo_cb' rc_listK (ea_cons (eo_var rfl r137) ea_nil)))) h140 fun x146 v147 B148 H149 us152 W153 s154 r151 h150 => ⟨_, _, _, _, _, _, x146, _, _, _, _, _, _, rfl, ((s139.trans g136.b).trans s154), r151, W153, h150⟩)), fun sg163 B164 H165 hR => (by obtain ⟨_, _, _, _, _, x158, v159, _, _, _, _, us161, rfl, s156, r160, W162, h157⟩ := hR; have h166 : kL103 x158 us161 = some R := h157; subst ekL104; exact (q_asgS W162 (es_of (H := H) (eo_lc (ei_any (eo_var rfl ((((r70.sm s90).sm s102).sm s112).sm s156))) (fun _ => rfl) (fun u170 v171 B168 H169 g167 r172 => et_yes) (fun u170 v171 B168 H169 g167 r172 => (eo_cb' rc_minA (ea_cons (eo_lc (ei_any (eo_var rfl r172)) (fun _ => rfl) (fun u176 v177 B174 H175 g173 r178 => et_yes) (fun u176 v177 B174 H175 g173 r178 => (eo_lidx (eo_var rfl (((((((r59.sm s75).sm s90).sm s102).sm s112).sm s156).upA g167).upA g173)) (eo_var rfl r178)))) ea_nil))))) h166 fun x179 v180 B181 H182 us185 W186 s187 r184 h183 => (q_ifS W186 (ets_of (H := H) (et_or (et_test (eo_op2 rv_ne (eo_cb' rc_sortD (ea_cons (eo_var rfl (r160.sm s187)) ea_nil)) (eo_cb' rc_sortD (ea_cons (eo_var rfl ((((((r59.sm s75).sm s90).sm s102).sm s112).sm s156).sm s187)) ea_nil)))) (et_test (eo_op2 rv_ne (eo_var rfl r184) (eo_cb' rc_sortD (ea_cons (eo_var rfl r184) ea_nil)))))) h183 (fun B188 H189 us194 W195 s196 h190 => (q_retS W195 (es_of (H := H) eo_bl) h190 k)) (fun B191 H192 us197 W198 s199 h193 => (q_withS h193 fun kL200 ekL201 h202 => q_forS W198 (eis_of (H := H) (ei_enum (eo_var rfl ((((((r70.sm s90).sm s102).sm s112).sm s156).sm s187).sm s199)))) h202 fun xs203 B204 H205 us207 W208 s209 h206 => ⟨fun l210 sg211 B212 H213 => ∃ (o214 : Option V) (o215 : Option V) (o216 : Option V) (o217 : Option V) (o218 : Option V) (o219 : Option V) (o220 : Option V) (o221 : Option V) (o222 : Option V) (o223 : Option V) (o224 : Option V) (us225 : List U), sg211 = [some (.ref p), o214, o215, o216, o217, o218, some v54, some v55, o219, o220, o221, o222, o223, o224] ∧ Same B204 B212 ∧ Wh (bsM B H p) B212 H213 [p] us225 ∧ m_law_right_l3 x52 x53 kL200 l210 us225 = some R, ⟨_, _, _, _, _, _, _, _, _, _, _, us207, rfl, Same.refl _, W208, h206⟩, fun _ _ _ _ ⟨_, _, _, _, _, _, _, _, _, _, _, _, _, sX, WX, _⟩ => ⟨sX, WX.s⟩, fun u226 l227 v228 sg348 B229 H230 B231 H232 hR g233 r234 => (by obtain ⟨_, _, _, _, _, _, _, _, _, _, _, us238, rfl, s236, W239, h237⟩ := hR; exact g_twoS g233.bh r234 h237 fun u240 u241 v242 v243 r244 r245 h246 => (q_asgS (W239.go g233) (es_of (H := H) (eo_lc (ei_any (eo_var rfl ((((((((((r59.sm s75).sm s90).sm s102).sm s112).sm s156).sm s187).sm s199).sm s209).sm s236).up g233))) (fun _ => rfl) (fun u250 v251 B248 H249 g247 r252 => (et_test (eo_op2 rv_notIn (eo_var rfl r252) (eo_var rfl (r245.upA g247))))) (fun u250 v251 B248 H249 g247 r252 => (eo_var rfl r252)))) h246 fun x253 v254 B255 H256 us259 W260 s261 r258 h257 => (q_withS h257 fun kL262 ekL263 h264 => q_forS W260 (eis_of (H := H) (ei_any (eo_var rfl (r245.sm s261)))) h264 fun xs265 B266 H267 us269 W270 s271 h268 => ⟨fun l272 sg273 B274 H275 => ∃ (o276 : Option V) (o277 : Option V) (o278 : Option V) (o279 : Option V) (o280 : Option V) (o281 : Option V) (o282 : Option V) (o283 : Option V) (us284 : List U), sg273 = [some (.ref p), o276, o277, o278, some v243, o279, some v54, some v55, o280, o281, some v242, some v254, o282, o283] ∧ Same B266 B274 ∧ Wh (bsM B H p) B274 H275 [p] us284 ∧ m_law_right_l4 u241 x52 x53 u240 x253 kL262 l272 us284 = some R, ⟨_, _, _, _, _, _, _, _, us269, rfl, Same.refl _, W270, h268⟩, fun _ _ _ _ ⟨_, _, _, _, _, _, _, _, _, _, sX, WX, _⟩ => ⟨sX, WX.s⟩, fun u285 l286 v287 sg338 B288 H289 B290 H291 hR g292 r293 => (by obtain ⟨_, _, _, _, _, _, _, _, us297, rfl, s295, W298, h296⟩ := hR; exact (q_ifS (W298.go g292) (ets_of (H := H) (et_test (eo_op2 rv_ne (eo_lc (ei_any (eo_var rfl (((r258.sm s271).sm s295).up g292))) (fun _ => rfl) (fun u302 v303 B300 H301 g299 r304 => (et_B (eo_call (ea_cons (eo_var rfl r304) (ea_cons (eo_var rfl (r293.upA g299)) ea_nil))))) (fun u302 v303 B300 H301 g299 r304 => (eo_var rfl r304))) (eo_lst ea_nil)))) h296 (fun B305 H306 us311 W312 s313 h307 => (q_retS W312 (es_of (H := H) eo_bl) h307 k)) (fun B308 H309 us314 W315 s316 h310 => (q_ifS W315 (ets_of (H := H) (et_test (eo_op2 rv_ne (eo_lst (ea_cons (eo_call (ea_cons (eo_var rfl (((((((((((((((r58.sm s75).sm s90).sm s102).sm s112).sm s156).sm s187).sm s199).sm s209).sm s236).up g233).sm s261).sm s271).sm s295).up g292).sm s316)) (ea_cons (eo_op2 rv_get (eo_var rfl (r293.sm s316)) eo_int) (ea_cons (eo_op2 rv_get (eo_var rfl (r293.sm s316)) eo_int) ea_nil)))) (ea_cons (eo_callR (ea_cons (eo_op2 rv_get (eo_var rfl (r293.sm s316)) eo_int) (ea_cons (eo_op2 rv_get (eo_var rfl (r293.sm s316)) eo_int) (ea_cons (eo_var rfl (((((((((((((((r58.sm s75).sm s90).sm s102).sm s112).sm s156).sm s187).sm s199).sm s209).sm s236).up g233).sm s261).sm s271).sm s295).up g292).sm s316)) ea_nil)))) ea_nil))) (eo_lst (ea_cons (eo_var rfl (((((r244.sm s261).sm s271).sm s295).up g292).sm s316)) (ea_cons (eo_var rfl (((((r244.sm s261).sm s271).sm s295).up g292).sm s316)) ea_nil)))))) h310 (fun B317 H318 us323 W324 s325 h319 => (q_retS W324 (es_of (H := H) eo_bl) h319 k)) (fun B320 H321 us326 W327 s328 h322 => ⟨_, _, _, _, _, _, _, _, _, _, rfl, (((s295.trans g292.b).trans s316).trans s328), W327, h322⟩))))), fun sg334 B335 H336 hR => (by obtain ⟨_, _, _, _, _, _, _, _, us332, rfl, s330, W333, h331⟩ := hR; have h337 : kL262 us332 = some R := h331; subst ekL263; exact ⟨_, _, _, _, _, _, _, _, _, _, _, _, _, rfl, ((((s236.trans g233.b).trans s261).trans s271).trans s330), W333, h337⟩)⟩))), fun sg344 B345 H346 hR => (by obtain ⟨_, _, _, _, _, _, _, _, _, _, _, us342, rfl, s340, W343, h341⟩ := hR; have h347 : kL200 us342 = some R := h341; subst ekL201; exact ⟨_, _, _, _, _, _, _, _, _, _, _, _, _, _, _, rfl, ((((((((((((s39.trans g36.b).trans s51).trans s63).trans s75).trans s90).trans s102).trans s112).trans s156).trans s187).trans s199).trans s209).trans s340), W343, h347⟩)⟩)))))⟩)))))))), fun sg355 B356 H357 hR => (by obtain ⟨_, _, _, _, _, _, _, _, _, _, _, _, _, us353, rfl, s351, W354, h352⟩ := hR; have h358 : kL1 us353 = some R := h352; subst ekL2; exact (q_retS W354 (es_of (H := H) eo_bl) h358 k))⟩)
/-! law -/
abbrev s_law : Stmt := top 38
abbrev N_law : List Str := ["_law_script", "_law_spot"]
theorem sc_law : FnScope N_law ["_law_script"] (defScope s_law) := ⟨rfl, rfl, rfl, by decide +kernel, rfl, by decide +kernel, by decide +kernel⟩
def m_lawS (p0 : U) : SM U := (callS (c1 allV) (consS (keepN (lcS (fun u4 => (pureS (some true))) (fun u4 => (callF (b0 m_law_right) (callS (a2 m_law_purse) (pureS (consO (some p0) (consO (some u4) (some []))))) (pureS (some [])))) (pureS (rngO rng1 (consO (callO maxA (consO (some (U.int 2)) (consO (callO minU (consO (callO lenV (consO (some p0) (some []))) (consO (some (U.int 4)) (some [])))) (some [])))) (some [])))))) (pureS (some []))))
def m_law (p0 : U) : Option U := runS (m_lawS p0)
theorem ok_law (T : Tx w K mg a d) : FnOk P w K mg base CX0 8 (a 38) (d 38) ["_law_script"] (spU (a1 m_law)) := by
  refine T.f_law.ok sc_law (fun vs H Q E h => ?_) (fun cdv A outer s H vs Q E hr h => ?_)
  · obtain ⟨B, p0, vp0, r, rfl, _⟩ := sp1 h
    rfl
  · obtain ⟨B, p0, vp0, r, rfl, sB, rp0, hM, k⟩ := sp1 h
    have nd := sc_law.nd
    obtain ⟨R, hM2, rfl⟩ := runS_some hM
    clear hM
    have k := fun v B2 H2 ps2 (W : Wh (bsU B H) B2 H2 ps2 R.2) r => k v B2 H2 W.pure r
    refine ⟨_, (pss_cons (ps_ret (pe_callB (cr_allK (K := K) rfl rfl) (by rfl) T.b_all bb_all (pa_cons (pe_lc (own := [("_law_spot", 1)]) (g := gName 1) (tt := tYes) (by rfl) nd (pi_range1 (by rfl) T.b_range (pa_cons (pe_callB (call_maxK (K := K) rfl rfl) (by rfl) T.b_max bb_max (pa_cons pe_int (pa_cons (pe_callB (call_min2 rfl) (by rfl) T.b_min bb_min (pa_cons (pe_callB (call_lenK (K := K) rfl) (by rfl) T.b_len bb_len (pa_cons (pv 0) pa_nil)) (pa_cons pe_int pa_nil))) pa_nil))) pa_nil)) (blkOk_by (own := [("_law_spot", 1)]) (N := N_law) (sc := defScope s_law) (by decide +kernel)) (fun _ _ _ _ _ => pg_name (i := 1) nd rfl (Or.inl rfl)) (fun _ _ _ _ _ => pts_nil) (fun _ _ _ _ _ => (pe_call (ok_law_right T) (hr.mono (by decide)) (by rfl) T.g_law_right T.f_law_right.kp T.bd_law_right .nil pass0 (pa_cons (pe_call (ok_law_purse T) (hr.mono (by decide)) (by rfl) T.g_law_purse T.f_law_purse.kp T.bd_law_purse .nil pass0 (pa_cons (pv 0) (pa_cons (pv 1) pa_nil))) pa_nil)))) pa_nil))) pss_nil), ?_⟩
    exact (q_retS (wh_pure sB) (es_cb rc_all (eas_cons (es_ofN (en_lc (eis_of (H := H) (ei_rng1 (ea_cons (eo_cb' rc_maxA (ea_cons eo_int (ea_cons (eo_cb' rc_min (ea_cons (eo_cb' rc_len (ea_cons (eo_var rfl rp0) ea_nil)) (ea_cons eo_int ea_nil))) ea_nil))) ea_nil))) (fun _ => rfl) (fun u4 v5 B2 H3 g1 r6 => (ets_of (H := H) et_yes)) (fun u4 v5 B2 H3 g1 r6 => (es_callF (H := H) (en_call (eas_of (H := H) (ea_cons (eo_var rfl (rp0.upA g1)) (ea_cons (eo_var rfl r6) ea_nil)))) ea_nil)))) eas_nil)) hM2 k)
end
end K06
set_option Elab.async false
set_option linter.all false
set_option maxRecDepth 100000
set_option maxHeartbeats 2000000
namespace K06
open PySem L2 Dn
/-- a purse -/
def Urn (u : U) : Prop := ∃ a b : Int, u = .frl [.int a, .int b]
theorem Urn.own {u : U} (h : Urn u) : u.own = true := by obtain ⟨a, b, rfl⟩ := h; rfl
theorem Urn.plc {u : U} (h : Urn u) : u.plc = true := by obtain ⟨a, b, rfl⟩ := h; rfl
theorem draw_ok {u : U} {n : Int} (hu : Urn u) (h0 : 0 < n) (h1 : n < 1073741824) : ∃ r u', b1 m_law_draw u [.int n] = some (.int r, u') ∧ Urn u' ∧ 0 ≤ r ∧ r < n := by
  obtain ⟨a, b, rfl⟩ := hu
  show ∃ r u', finS (m_law_draw (.int n) [.frl [.int a, .int b]]) = some (.int r, u') ∧ Urn u' ∧ 0 ≤ r ∧ r < n
  have e1 : ∀ b : Int, mulV (.int b) (.int 45991) = some (.int (b * 45991)) := fun b => mulV_r (by decide)
  have e3 : ∀ b : Int, modV (.int b) (.int 2147483647) = some (.int (b % 2147483647)) := fun b => modV_i (by decide)
  have e4 : ∀ b : Int, fdivV (.int b) (.int 1024) = some (.int (b / 1024)) := fun b => fdivV_i (by decide)
  have e5 : ∀ b : Int, modV (.int b) (.int n) = some (.int (b % n)) := fun b => modV_i h0
  have e6 : ∀ b : Int, divmodU [.int b, .int n] = some (.tup [.int (b / n), .int (b % n)]) := fun b => divmod_i ⟨h0, h1⟩
  have hr : ∀ i : Int, 0 ≤ i % n ∧ i % n < n := fun i => ⟨Int.emod_nonneg i (by omega), Int.emod_lt_of_pos i h0⟩
  by_cases ha : 0 < a
  · refine ⟨a % n, .frl [.int (a / n), .int b], ?_, ⟨_, _, rfl⟩, (hr a).1, (hr a).2⟩
    unfold m_law_draw
    simp [bindS, opS, lockO, U.own, U.pl, getV, atI, ixN, setLS, ifS, testS, callS, consS, ha, e6, unpS, unp2, finS, U.asB]
  · refine ⟨((b * 45991 + 40503) % 2147483647) / 1024 % n, .frl [.int a, .int ((b * 45991 + 40503) % 2147483647)], ?_, ⟨_, _, rfl⟩, (hr _).1, (hr _).2⟩
    unfold m_law_draw
    simp [bindS, opS, lockO, U.own, U.pl, getV, atI, ixN, setLS, ifS, testS, callS, consS, ha, e1, e3, e4, e5, unpS, unp2, finS, U.asB]
theorem draw_at {u : U} {t : List U} {n : Int} (hu : Urn u) (h0 : 0 < n) (h1 : n < 1073741824) : ∃ r u', callM 0 (b1 m_law_draw) [.int n] (u :: t) = some (.int r, u' :: t) ∧ Urn u' ∧ 0 ≤ r ∧ r < n := by
  obtain ⟨r, u', e, h⟩ := draw_ok hu h0 h1
  exact ⟨r, u', callM_s rfl hu.own e, h⟩
theorem pick_ok {u : U} {xs : List U} (hu : Urn u) (hx : xs ≠ []) (hl : xs.length ≤ lim) : ∃ x u', b1 m_law_pick u [.lst xs] = some (x, u') ∧ Urn u' ∧ x ∈ xs := by
  have hp : 0 < xs.length := List.length_pos_iff.mpr hx
  have hlim : lim < 1073741824 := by decide
  obtain ⟨r, u', e, hu', h0, h1⟩ := draw_at (t := []) (n := (xs.length : Int)) hu (by omega) (by omega)
  obtain ⟨x, ex, hx2⟩ := atI_int h0 h1
  refine ⟨x, u', ?_, hu', List.mem_of_getElem? hx2⟩
  show finS (m_law_pick (.lst xs) [u]) = _
  unfold m_law_pick
  have e2 : opS getV (pureS (some (U.lst xs))) (bindS (pureS (consO (callO lenV (consO (some (U.lst xs)) (some []))) (some []))) fun xs => callM 0 (b1 m_law_draw) xs) [u] = some (x, [u']) := opS_s rfl e ex
  rw [e2]
  simp [finS, hu'.own]
theorem pick_at {u : U} {t : List U} {xs : List U} (hu : Urn u) (hx : xs ≠ []) (hl : xs.length ≤ lim) : ∃ x u', callM 0 (b1 m_law_pick) [.lst xs] (u :: t) = some (x, u' :: t) ∧ Urn u' ∧ x ∈ xs := by
  obtain ⟨r, u', e, h⟩ := pick_ok hu hx hl
  exact ⟨r, u', callM_s rfl hu.own e, h⟩
/-! ### names -/
def txs (ss : List Str) : List U := ss.map U.str
theorem perm_erase {α : Type} : ∀ (l : List α) (k : Nat) (h : k < l.length), (l[k] :: l.eraseIdx k).Perm l
  | [], k, h => absurd h (Nat.not_lt_zero _)
  | x :: l, 0, _ => .refl _
  | x :: l, k + 1, h => (List.Perm.swap x (l[k]'(by simpa using h)) _).trans ((perm_erase l k (by simpa using h)).cons x)
theorem er_map {α β : Type} (f : α → β) : ∀ (l : List α) (k : Nat), (l.map f).eraseIdx k = (l.eraseIdx k).map f
  | [], _ => rfl
  | x :: l, 0 => rfl
  | x :: l, k + 1 => by
    show f x :: (l.map f).eraseIdx k = f x :: (l.eraseIdx k).map f
    rw [er_map f l k]
theorem labels_l1 {k : SM U} : ∀ (l : List U) (u : U) (pool found : List Str), Urn u → l.length ≤ pool.length → found.length + l.length ≤ 1000 → pool.length < 1000 →
    ∃ u' pool' found', m_law_labels_l1 k l [u, .frl (txs pool), .frl (txs found)] = k [u', .frl (txs pool'), .frl (txs found')] ∧ Urn u' ∧ (pool' ++ found').Perm (pool ++ found) ∧ found'.length = found.length + l.length
  | [], u, pool, found, hu, _, _, _ => ⟨u, pool, found, rfl, hu, .refl _, rfl⟩
  | x :: l, u, pool, found, hu, hl, hf, hp => by
    rw [List.length_cons] at hl hf
    obtain ⟨r, u1, e, hu1, h0, h1⟩ := draw_at (t := [.frl (txs pool), .frl (txs found)]) (n := (pool.length : Int)) hu (by omega) (by omega)
    have hk : r.toNat < pool.length := by omega
    have hb : -(2 ^ 63) ≤ r ∧ r < 2 ^ 63 := by omega
    obtain ⟨u2, pool2, found2, e2, hu2, hp2, hf2⟩ := labels_l1 (k := k) l u1 (pool.eraseIdx r.toNat) (found ++ [pool[r.toNat]]) hu1 (by rw [List.length_eraseIdx_of_lt hk]; omega) (by rw [List.length_append, List.length_singleton]; omega) (by rw [List.length_eraseIdx_of_lt hk]; omega)
    refine ⟨u2, pool2, found2, ?_, hu2, hp2.trans ?_, by rw [hf2, List.length_append, List.length_singleton, List.length_cons]; omega⟩
    · rw [← e2]
      have e3 : bindS (consS (lockO 1 fun u46 => (callO lenV (consO (some u46) (some [])))) (pureS (some []))) (fun xs => callM 0 (b1 m_law_draw) xs) [u, .frl (txs pool), .frl (txs found)] = some (.int r, [u1, .frl (txs pool), .frl (txs found)]) := by
        rw [bindS_s (consS_s (lockO_s (z := .int pool.length) rfl rfl (by simp [lenV, txs]) rfl) rfl)]
        exact e
      have e4 : popS 1 (.int r) [u1, .frl (txs pool), .frl (txs found)] = some (.str pool[r.toNat], [u1, .frl (txs (pool.eraseIdx r.toNat)), .frl (txs found)]) := by
        have hsi : seqIndex? r pool.length = some r.toNat := seqIndex_of h0 (by omega)
        simp only [popS, List.getElem?_cons_succ, List.getElem?_cons_zero, if_pos hb, txs, List.length_map, hsi, Option.bind_some, List.getElem?_map, List.getElem?_eq_getElem hk, Option.map_some, er_map]
        rfl
      have e5 : appS 2 (.str pool[r.toNat]) [u1, .frl (txs (pool.eraseIdx r.toNat)), .frl (txs found)] = some (.non, [u1, .frl (txs (pool.eraseIdx r.toNat)), .frl (txs (found ++ [pool[r.toNat]]))]) := by
        have : (txs found).length < lim := by simp [txs]; have : lim = 100000 := rfl; omega
        show (if (txs found).length < lim then some (U.non, [u1, U.frl (txs (pool.eraseIdx r.toNat)), U.frl (txs found)].set 2 (.frl (txs found ++ [.str pool[r.toNat]]))) else none) = _
        rw [if_pos this]
        simp [txs]
      show bindS _ _ _ = _
      rw [bindS_s (bindS_s (bindS_s e3 |>.trans e4) |>.trans e5)]
    · have q : (pool[r.toNat] :: pool.eraseIdx r.toNat).Perm pool := perm_erase pool r.toNat hk
      have q1 : (pool.eraseIdx r.toNat ++ (found ++ [pool[r.toNat]])).Perm (pool[r.toNat] :: (pool.eraseIdx r.toNat ++ found)) := by
        rw [← List.append_assoc]
        exact List.perm_append_singleton _ _
      exact q1.trans (q.append_right found)
def POOL : List Str := (["a", "b", "c", "d", "e", "f", "g", "h", "i", "j", "k"] : List Str) ++ (["l", "m", "n", "o", "p", "q", "r", "s", "t", "u", "v"] : List Str) ++ (["w", "x", "y", "z", "to", "fork", "none", "error", "abcdefgh", "bb", "dd"] : List Str) ++ (["ff", "hh", "jj", "ll", "nn", "pp", "rr", "tt", "vv", "xx", "zz"] : List Str)
theorem pool_nodup : POOL.Nodup := by decide +kernel
theorem labels_ok {u : U} {n : Nat} (hu : Urn u) (hn : n ≤ 44) : ∃ ws u', b1 m_law_labels u [.int n] = some (.lst (txs ws), u') ∧ Urn u' ∧ ws.length = n ∧ ws.Nodup ∧ ∀ w ∈ ws, w ∈ POOL := by
  obtain ⟨u', pool', found', e, hu', hp, hl⟩ := labels_l1 (k := bindS (takeS 2) fun x87 => (pureS (some x87))) (rangeU 0 n) u POOL [] hu (by simp [rangeU, POOL]; exact hn) (by simp [rangeU]; omega) (by decide)
  rw [List.append_nil] at hp
  have nd := hp.nodup_iff.mpr pool_nodup
  refine ⟨found', u', ?_, hu', by simpa [rangeU] using hl, (List.nodup_append.mp nd).2.1, fun w hw => hp.mem_iff.mp (List.mem_append_right _ hw)⟩
  show finS (m_law_labels (.int n) [u]) = _
  have er : rng1 [.int (n : Int)] = some (rangeU 0 n) := by
    show (if (n : Int) ≤ 100000 ∧ -100000 ≤ (n : Int) then some (rangeU 0 (n : Int).toNat) else none) = _
    rw [if_pos (by omega)]; rfl
  have em : m_law_labels (.int n) [u] = m_law_labels_l1 (bindS (takeS 2) fun x87 => (pureS (some x87))) (rangeU 0 n) [u, .frl (txs POOL), .frl (txs [])] := by
    unfold m_law_labels
    simp only [consO_s, rngO_s, er]
    kernel_rfl
  rw [em, e]
  simp [takeS, bindS, finS, hu'.own]
abbrev tl (x : Str) : List Nat := x.cps.toList
/-! ### rows of a web -/
abbrev Row := Str × List Str
def rowU (r : Row) : U := .tup [.str r.1, .tup (txs r.2)]
def rowsU (rs : List Row) : List U := rs.map rowU
abbrev names (rs : List Row) : List Str := rs.map (·.1)
abbrev srcs (rs : List Row) : List Str := rs.flatMap (·.2)
def cnt (rs : List Row) (n : Str) : Nat := (srcs rs).count n
def Word (w : Str) : Prop := 0 < (tl w).length ∧ (tl w).length ≤ 8 ∧ ∀ c ∈ tl w, 97 ≤ c ∧ c ≤ 122
theorem pool_words : ∀ w ∈ POOL, Word w := by
  have : ∀ w ∈ POOL, (decide (0 < (tl w).length) && decide ((tl w).length ≤ 8) && (tl w).all fun c => decide (97 ≤ c) && decide (c ≤ 122)) = true := by decide +kernel
  intro w hw
  have h := this w hw
  simp only [Bool.and_eq_true, decide_eq_true_eq, List.all_eq_true] at h
  exact ⟨h.1.1, h.1.2, h.2⟩
inductive Web : List Row → Prop
  | one {w : Str} : Word w → Web [(w, [])]
  | snoc {rs : List Row} {w : Str} {ss : List Str} : Web rs → Word w → w ∉ names rs → ss ≠ [] → ss.length ≤ 2 → ss.Nodup → (∀ s ∈ ss, s ∈ names rs ∧ cnt rs s < 2) → Web (rs ++ [(w, ss)])
theorem cnt_snoc {rs : List Row} {w n : Str} {ss : List Str} : cnt (rs ++ [(w, ss)]) n = cnt rs n + ss.count n := by
  simp [cnt, srcs, List.flatMap_append, List.count_append]
theorem names_snoc {rs : List Row} {w : Str} {ss : List Str} : names (rs ++ [(w, ss)]) = names rs ++ [w] := by simp [names]
theorem Web.src {rs : List Row} (h : Web rs) : ∀ s ∈ srcs rs, s ∈ names rs := by
  induction h with
  | one _ => intro s hs; simp [srcs] at hs
  | snoc _ _ _ _ _ _ hs ih =>
    intro s h
    simp only [srcs, List.flatMap_append, List.mem_append, List.flatMap_cons, List.flatMap_nil, List.append_nil] at h
    rw [names_snoc, List.mem_append]
    rcases h with h | h
    · exact .inl (ih s h)
    · exact .inl (hs s h).1
theorem Web.nodup {rs : List Row} (h : Web rs) : (names rs).Nodup := by
  induction h with
  | one _ => simp [names]
  | snoc _ _ hn _ _ _ _ ih =>
    rw [names_snoc, List.nodup_append]
    exact ⟨ih, by simp, fun a ha b hb e => by simp at hb; subst hb; exact hn (e ▸ ha)⟩
theorem Web.two {rs : List Row} (h : Web rs) : ∀ n, cnt rs n ≤ 2 := by
  induction h with
  | one _ => intro n; simp [cnt, srcs]
  | @snoc rs w ss _ _ _ _ _ nd hs ih =>
    intro n
    rw [cnt_snoc]
    by_cases hn : n ∈ ss
    · have := (hs n hn).2
      have h1 : ss.count n ≤ 1 := List.nodup_iff_count.mp nd n
      omega
    · rw [List.count_eq_zero.mpr hn]; exact ih n
theorem Web.ne {rs : List Row} (h : Web rs) : rs ≠ [] := by cases h <;> simp
theorem Web.words {rs : List Row} (h : Web rs) : ∀ w ∈ names rs, Word w := by
  induction h with
  | one hw => intro w h; simp [names] at h; subst h; exact hw
  | snoc _ hw _ _ _ _ _ ih =>
    intro n h
    rw [names_snoc, List.mem_append] at h
    rcases h with h | h
    · exact ih n h
    · simp at h; subst h; exact hw
theorem Web.last {rs : List Row} (h : Web rs) : ∃ r0 w ss, rs = r0 ++ [(w, ss)] ∧ ss.length ≤ 2 ∧ ss.Nodup ∧ ∀ s ∈ ss, s ∈ names rs := by
  cases h with
  | @one w _ => exact ⟨[], w, [], rfl, by simp, by simp, fun s h => by cases h⟩
  | @snoc r0 w ss _ _ _ _ h2 nd hs => exact ⟨r0, w, ss, rfl, h2, nd, fun s h => by rw [names_snoc]; exact List.mem_append_left _ (hs s h).1⟩
/-! ### the dict of what is used -/
/-! ### the dict of the room that is left -/
def room (rs : List Row) : List (Str × Int) := rs.map fun r => (r.1, 2 - (cnt rs r.1 : Int))
def dicI (kvs : List (Str × Int)) : List (Key × U) := kvs.map fun kv => (Sum.inr kv.1, U.int kv.2)
theorem lookI {n : Str} {c : Int} : ∀ {kvs : List (Str × Int)}, (kvs.map (·.1)).Nodup → (n, c) ∈ kvs → lookK (dicI kvs) (Sum.inr n) = some (.int c)
  | [], _, h => by cases h
  | (k, v) :: r, nd, h => by
    rw [List.map_cons, List.nodup_cons] at nd
    by_cases e : k = n
    · subst e
      rcases List.mem_cons.mp h with h | h
      · cases h; simp [lookK, dicI]
      · exact absurd (List.mem_map.mpr ⟨_, h, rfl⟩) nd.1
    · have h2 : (n, c) ∈ r := by
        rcases List.mem_cons.mp h with h | h
        · cases h; exact absurd rfl e
        · exact h
      have := lookI nd.2 h2
      simp only [lookK, dicI, List.map_cons, List.find?_cons] at this ⊢
      have e2 : decide ((Sum.inr k : Key) = Sum.inr n) = false := by simp [e]
      rw [e2]
      exact this
theorem room_keys {rs : List Row} : (room rs).map (·.1) = names rs := by simp [room, names]
theorem get_room {rs : List Row} {n : Str} (h : (names rs).Nodup) (hn : n ∈ names rs) : getV (.dic (dicI (room rs))) (.str n) = some (.int (2 - cnt rs n)) := by
  have hm : (n, 2 - (cnt rs n : Int)) ∈ room rs := by
    obtain ⟨r, hr, e⟩ := List.mem_map.mp hn
    exact List.mem_map.mpr ⟨r, hr, by rw [e]⟩
  have := lookI (by rw [room_keys]; exact h) hm
  show ((U.str n).key.map fun k => lookK (dicI (room rs)) k).bind id = _
  simp [U.key, this]
def freeL (rs : List Row) : List Str := (names rs).filter fun n => decide (cnt rs n < 2)
theorem txs_pl {ss : List Str} : U.pls (txs ss) = true := by
  induction ss with
  | nil => rfl
  | cons s ss ih => simp [txs, U.pls, U.pl] at ih ⊢; exact ih
theorem rows_pl {rs : List Row} : U.pls (rowsU rs) = true := by
  induction rs with
  | nil => rfl
  | cons s ss ih => simp [rowsU, U.pls, U.pl, rowU, txs_pl] at ih ⊢; exact ih
theorem dicI_pl {kvs : List (Str × Int)} : (U.dic (dicI kvs)).plc = true := by simp [U.plc, dicI, U.pl]
theorem rowsU_plc {rs : List Row} : (U.frl (rowsU rs)).plc = true := rows_pl
theorem txs_plc {ss : List Str} : (U.frl (txs ss)).plc = true := txs_pl
theorem txs_length {ss : List Str} : (txs ss).length = ss.length := by simp [txs]
theorem filter_txs {p : Str → Bool} {q : U → Bool} (h : ∀ s, q (.str s) = p s) : ∀ ss : List Str, (txs ss).filter q = txs (ss.filter p)
  | [] => rfl
  | s :: ss => by
    have ih := filter_txs h ss
    simp only [txs, List.map_cons, List.filter_cons, h] at ih ⊢
    split
    · simp [ih]
    · exact ih
theorem free_mem {rs : List Row} {n : Str} : n ∈ freeL rs ↔ n ∈ names rs ∧ cnt rs n < 2 := by simp [freeL, List.mem_filter]
theorem free_ok {rs : List Row} {us : List U} (nd : (names rs).Nodup) (hl : rs.length ≤ 1000) (h2 : us[2]? = some (.dic (dicI (room rs)))) :
    lockO 2 (fun u58 => (compO (fun u64 => (testO (op2 gtV (op2 getV (some u58) (some u64)) (some (U.int 0))))) (fun u64 => (some u64)) (iterO U.iter (some u58)))) us = some (.lst (txs (freeL rs)), us) := by
  refine lockO_s h2 rfl ?_ (by simp [U.pl, txs_pl])
  have hk : (dicI (room rs)).map (fun kv => kU kv.1) = (names rs).map U.str := by simp [dicI, room, names, kU]
  show (some ((dicI (room rs)).map fun kv => kU kv.1)).bind (fun l => lcO _ _ l) = _
  rw [hk, Option.bind_some]
  have hlim : lim = 100000 := rfl
  have := lcO_mf (p := fun u64 => (testO (op2 gtV (op2 getV (some (U.dic (dicI (room rs)))) (some u64)) (some (U.int 0))))) (f := fun u64 => (some u64)) (g := U.str) (q := fun n => decide (cnt rs n < 2)) (h := U.str) (names rs) (by simp [names]; omega) (fun n hn => by
    rw [op2_s, get_room nd hn, op2_s, gtV_i, testO_s]
    simp only [Option.some.injEq, decide_eq_decide]
    omega) (fun n _ _ => rfl)
  exact this
theorem count_filter {n : Str} : ∀ l : List Str, l.count n + (l.filter fun x => decide (x ≠ n)).length = l.length
  | [] => rfl
  | x :: l => by
    have ih := count_filter (n := n) l
    by_cases e : x = n
    · subst e
      simp only [List.count_cons_self, List.filter_cons, ne_eq, not_true, decide_false, Bool.false_eq_true, if_false, List.length_cons] at ih ⊢
      omega
    · rw [List.count_cons_of_ne e, List.filter_cons, if_pos (by simpa using e), List.length_cons, List.length_cons]
      omega
theorem count_sum {l : List Str} : ∀ {ns : List Str}, ns.Nodup → (ns.map fun n => l.count n).sum ≤ l.length
  | [], _ => by simp
  | n :: ns, nd => by
    rw [List.nodup_cons] at nd
    have ih := count_sum (l := l.filter fun x => decide (x ≠ n)) nd.2
    have e : (ns.map fun m => (l.filter fun x => decide (x ≠ n)).count m) = ns.map fun m => l.count m := by
      apply List.map_congr_left
      intro m hm
      have : m ≠ n := fun z => nd.1 (z ▸ hm)
      rw [List.count_filter (by simpa using this)]
    rw [e] at ih
    have h2 := count_filter (n := n) l
    simp only [List.map_cons, List.sum_cons]
    omega
theorem Web.srcs_len {rs : List Row} (h : Web rs) : (srcs rs).length + 2 ≤ 2 * rs.length := by
  induction h with
  | one _ => simp [srcs]
  | snoc _ _ _ _ h2 _ _ ih =>
    simp only [srcs, List.flatMap_append, List.flatMap_cons, List.flatMap_nil, List.append_nil, List.length_append, List.length_singleton] at ih ⊢
    omega
theorem Web.free {rs : List Row} (h : Web rs) : freeL rs ≠ [] := fun z => by
  have h1 := count_sum (l := srcs rs) h.nodup
  have h2 : ∀ n ∈ names rs, 2 ≤ (srcs rs).count n := fun n hn => by
    have : ¬ n ∈ freeL rs := by rw [z]; simp
    rw [free_mem] at this
    have : ¬ cnt rs n < 2 := fun q => this ⟨hn, q⟩
    show 2 ≤ cnt rs n
    omega
  have h3 : 2 * (names rs).length ≤ ((names rs).map fun n => (srcs rs).count n).sum := by
    generalize names rs = ns at h2
    induction ns with
    | nil => simp
    | cons n ns ih =>
      have := ih fun m hm => h2 m (List.mem_cons_of_mem _ hm)
      have h4 := h2 n (List.mem_cons_self ..)
      simp only [List.length_cons, List.map_cons, List.sum_cons]
      omega
  have h4 : (names rs).length = rs.length := by simp [names]
  have h5 := h.srcs_len
  omega
theorem putI {n : Str} {v c : Int} : ∀ {kvs : List (Str × Int)}, (kvs.map (·.1)).Nodup → (n, v) ∈ kvs → putU (dicI kvs) (Sum.inr n) (.int c) = dicI (kvs.map fun kv => if kv.1 = n then (kv.1, c) else kv) := by
  intro kvs nd h
  have ha : ((dicI kvs).any fun kv => decide (kv.1 = Sum.inr n)) = true := by
    rw [List.any_eq_true]
    exact ⟨(Sum.inr n, .int v), List.mem_map.mpr ⟨_, h, rfl⟩, by simp⟩
  unfold putU
  rw [if_pos ha]
  simp only [dicI, List.map_map]
  apply List.map_congr_left
  intro kv _
  simp only [Function.comp_apply, Sum.inr.injEq]
  split <;> rfl
theorem putI_new {n : Str} {c : Int} {kvs : List (Str × Int)} (h : n ∉ kvs.map (·.1)) : putU (dicI kvs) (Sum.inr n) (.int c) = dicI (kvs ++ [(n, c)]) := by
  have ha : ¬ ((dicI kvs).any fun kv => decide (kv.1 = Sum.inr n)) = true := by
    rw [List.any_eq_true]
    rintro ⟨kv, hm, e⟩
    obtain ⟨⟨k, v⟩, hk, rfl⟩ := List.mem_map.mp hm
    simp at e
    exact h (List.mem_map.mpr ⟨_, hk, e⟩)
  unfold putU
  rw [if_neg ha]
  simp [dicI]

end K06
set_option Elab.async false
set_option linter.all false
set_option maxRecDepth 100000
set_option maxHeartbeats 2000000
namespace K06
open PySem L2 Dn
/-! ### one turn of the drawing -/
theorem withK_s {κ α : Type} {K : κ} {f : κ → α} : withK K f = f K := rfl
theorem nodup_le {α : Type} [DecidableEq α] : ∀ {ms ls : List α}, ms.Nodup → (∀ x ∈ ms, x ∈ ls) → ms.length ≤ ls.length
  | [], _, _, _ => by simp
  | m :: ms, ls, nd, h => by
    rw [List.nodup_cons] at nd
    have hm := h m (List.mem_cons_self ..)
    have ih := nodup_le (ms := ms) (ls := ls.erase m) nd.2 fun x hx => (List.mem_erase_of_ne fun (z : x = m) => nd.1 (z ▸ hx)).mpr (h x (List.mem_cons_of_mem _ hx))
    have := List.length_erase_of_mem hm
    have := List.length_pos_of_mem hm
    rw [List.length_cons]
    omega
theorem andS_s {F G : SM Bool} {us us1 : List U} {x : Bool} (h : F us = some (x, us1)) : andS F G us = if x = true then G us1 else some (false, us1) := by
  unfold andS
  rw [bindS_s h]
  cases x <;> rfl
theorem orS_s {F G : SM Bool} {us us1 : List U} {x : Bool} (h : F us = some (x, us1)) : orS F G us = if x = true then some (true, us1) else G us1 := by
  unfold orS
  rw [bindS_s h]
  cases x <;> rfl
theorem testS_s' {F : SM U} {us us1 : List U} {b : Bool} (h : F us = some (.bl b, us1)) : testS F us = some (b, us1) := by
  unfold testS
  rw [bindS_s h]
  rfl
theorem callS_s {m : List U → Option U} {F : SM (List U)} {us us1 l : List U} (h : F us = some (l, us1)) : callS m F us = (m l).map fun x => (x, us1) := by
  unfold callS
  rw [bindS_s h]
  rfl
theorem ne_nil {xs : List U} : testO (op2 neV2 (some (U.frl xs)) (lstO (some []))) = some (!xs.isEmpty) := by
  rw [lstO0, op2_s]
  cases xs with
  | nil => rfl
  | cons x xs => rfl
def decr (kvs : List (Str × Int)) (ss : List Str) : List (Str × Int) := kvs.map fun kv => (kv.1, kv.2 - (ss.count kv.1 : Nat))
theorem decr_nil {kvs : List (Str × Int)} : decr kvs [] = kvs := by simp [decr]
theorem decr_cons {kvs : List (Str × Int)} {n : Str} {v : Int} {ss : List Str} (nd : (kvs.map (·.1)).Nodup) (h : (n, v) ∈ kvs) : decr (kvs.map fun kv => if kv.1 = n then (kv.1, v - 1) else kv) ss = decr kvs (n :: ss) := by
  simp only [decr, List.map_map]
  apply List.map_congr_left
  rintro ⟨k, x⟩ hx
  simp only [Function.comp_apply, List.count_cons]
  by_cases e : k = n
  · subst e
    have : x = v := by
      have h1 := lookI nd hx
      have h2 := lookI nd h
      rw [h1] at h2
      exact U.int.inj (Option.some.inj h2)
    subst this
    simp; omega
  · have e2 : ¬ n = k := fun z => e z.symm
    simp [e, e2]
theorem rows_l2 {x w y : U} {k : SM U} {u f a : U} : ∀ (ss : List Str) (kvs : List (Str × Int)), (kvs.map (·.1)).Nodup → kvs.length < 1000 → (∀ s ∈ ss, s ∈ kvs.map (·.1)) →
    m_law_rows_l2 x w y k (txs ss) [u, f, .dic (dicI kvs), a] = k [u, f, .dic (dicI (decr kvs ss)), a]
  | [], kvs, _, _, _ => by rw [decr_nil]; rfl
  | s :: ss, kvs, nd, hl, hs => by
    obtain ⟨⟨n, v⟩, hm, e⟩ := List.mem_map.mp (hs s (List.mem_cons_self ..))
    have e : n = s := e
    subst e
    have eg : getV (.dic (dicI kvs)) (.str n) = some (.int v) := by
      show ((U.str n).key.map fun k => lookK (dicI kvs) k).bind id = _
      simp [U.key, lookI nd hm]
    have nd2 : ((kvs.map fun kv => if kv.1 = n then (kv.1, v - 1) else kv).map (·.1)) = kvs.map (·.1) := by
      rw [List.map_map]
      apply List.map_congr_left
      intro kv _
      simp only [Function.comp_apply]
      split <;> rfl
    have ih := rows_l2 (x := x) (w := w) (y := y) (k := k) (u := u) (f := f) (a := a) ss (kvs.map fun kv => if kv.1 = n then (kv.1, v - 1) else kv) (by rw [nd2]; exact nd) (by rw [List.length_map]; exact hl) (fun s hs' => by rw [nd2]; exact hs s (List.mem_cons_of_mem _ hs'))
    rw [decr_cons nd hm] at ih
    rw [← ih]
    have e1 : lockO 2 (fun u191 => (op2 getV (some u191) (some (U.str n)))) [u, f, .dic (dicI kvs), a] = some (.int v, [u, f, .dic (dicI kvs), a]) := lockO_s rfl rfl eg rfl
    have e2 : putS 2 (.str n) (.int (v - 1)) [u, f, .dic (dicI kvs), a] = some (.non, [u, f, .dic (dicI (kvs.map fun kv => if kv.1 = n then (kv.1, v - 1) else kv)), a]) := by
      have hlen : (dicI kvs).length < lim := by simp [dicI]; have : lim = 100000 := rfl; omega
      show ((U.str n).key.bind fun kk => if (dicI kvs).length < lim then some (U.non, [u, f, .dic (dicI kvs), a].set 2 (.dic (putU (dicI kvs) kk (.int (v - 1))))) else none) = _
      simp only [U.key, Option.bind_some, if_pos hlen, putI nd hm]
      rfl
    show bindS (opS subV (lockO 2 fun u191 => (op2 getV (some u191) (some (U.str n)))) (pureS (some (U.int 1)))) (fun y200 => bindS (pureS (some (U.str n))) fun k201 => bindS (putS 2 k201 y200) fun _ => (m_law_rows_l2 x w y k (txs ss))) [u, f, .dic (dicI kvs), a] = _
    rw [bindS_s (opS_s e1 rfl (subV_i (i := v) (j := 1))), bindS_pure, bindS_s e2]
theorem room_snoc {rs : List Row} {w : Str} {ss ss' : List Str} (hsrc : ∀ s ∈ srcs rs, s ∈ names rs) (hw : w ∉ names rs) (hs : w ∉ ss) (hc : ∀ n, ss'.count n = ss.count n) : decr (room rs) ss ++ [(w, 2)] = room (rs ++ [(w, ss')]) := by
  have c0 : cnt rs w = 0 := List.count_eq_zero.mpr fun z => hw (hsrc w z)
  have s0 : ss.count w = 0 := List.count_eq_zero.mpr hs
  simp only [decr, room, List.map_append, List.map_map, List.map_cons, List.map_nil, cnt_snoc, c0, hc, s0]
  congr 1
  apply List.map_congr_left
  intro r _
  simp only [Function.comp_apply]
  congr 1
  omega
/-- the sources that a new copy may have -/
def Good (rs : List Row) (ss : List Str) : Prop := (rs = [] ∧ ss = []) ∨ (Web rs ∧ ss ≠ [] ∧ ss.length ≤ 2 ∧ ss.Nodup ∧ ∀ s ∈ ss, s ∈ names rs ∧ cnt rs s < 2)
theorem Good.web {rs : List Row} {ss : List Str} {w : Str} (h : Good rs ss) (hw : Word w) (hn : w ∉ names rs) : Web (rs ++ [(w, ss)]) := by
  rcases h with ⟨rfl, rfl⟩ | ⟨h, h1, h2, h3, h4⟩
  · exact .one hw
  · exact .snoc h hw hn h1 h2 h3 h4
theorem Good.rev {rs : List Row} {ss : List Str} (h : Good rs ss) : Good rs ss.reverse := by
  rcases h with ⟨rfl, rfl⟩ | ⟨h, h1, h2, h3, h4⟩
  · exact .inl ⟨rfl, rfl⟩
  · exact .inr ⟨h, by simpa using h1, by simpa using h2, (List.reverse_perm ss).nodup_iff.mpr h3, fun s hs => h4 s (by simpa using hs)⟩
theorem Good.nodup {rs : List Row} {ss : List Str} (h : Good rs ss) : (names rs).Nodup := by
  rcases h with ⟨rfl, rfl⟩ | ⟨h, _⟩
  · exact .nil
  · exact h.nodup
theorem Good.src {rs : List Row} {ss : List Str} (h : Good rs ss) : ∀ s ∈ srcs rs, s ∈ names rs := by
  rcases h with ⟨rfl, rfl⟩ | ⟨h, _⟩
  · intro s hs; simp [srcs] at hs
  · exact h.src
theorem Good.mem {rs : List Row} {ss : List Str} (h : Good rs ss) : ∀ s ∈ ss, s ∈ names rs := by
  rcases h with ⟨rfl, rfl⟩ | ⟨_, _, _, _, h⟩
  · intro s hs; cases hs
  · exact fun s hs => (h s hs).1
def tailR (kL : U → SM U) (w : U) (l : List U) (d : U) : SM U := bindS (takeS 3) fun x => (withK (bindS (pureS (some (U.int 2))) fun y => bindS (pureS (some w)) fun k => bindS (putS 2 k y) fun _ => (bindS (bindS (tupS (consS (pureS (some w)) (consS (callS (c1 tupleV) (consS (ifS (testS (opS eqV2 (bindS (pureS (consO (some (U.int 2)) (some []))) fun xs => callM 0 (b1 m_law_draw) xs) (pureS (some (U.int 0))))) (pureS (some x)) (pureS (op2 stepV (some x) (op1 negV (some (U.int 1)))))) (pureS (some [])))) (pureS (some []))))) fun y => appS 1 y) fun _ => (cutS' 3 (m_law_rows_l1 kL l d)))) fun kk => (bindS (pureS (iterO U.iter (some x))) fun xs => m_law_rows_l2 d w x kk xs))
theorem tail_ok {kL : U → SM U} {l : List U} {u : U} {rs : List Row} {w : Str} {ss : List Str} {d : U} (hg : Good rs ss) (hl : rs.length < 900) (hu : Urn u) (hwn : w ∉ names rs) :
    ∃ u' ss', tailR kL (.str w) l d [u, .frl (rowsU rs), .dic (dicI (room rs)), .frl (txs ss)] = m_law_rows_l1 kL l d [u', .frl (rowsU (rs ++ [(w, ss')])), .dic (dicI (room (rs ++ [(w, ss')])))] ∧ Urn u' ∧ (ss' = ss ∨ ss' = ss.reverse) := by
  unfold tailR
  have e0 : takeS 3 [u, .frl (rowsU rs), .dic (dicI (room rs)), .frl (txs ss)] = some (.lst (txs ss), [u, .frl (rowsU rs), .dic (dicI (room rs)), .non]) := rfl
  rw [bindS_s e0]
  have e1 : iterO U.iter (some (U.lst (txs ss))) = some (txs ss) := rfl
  rw [withK_s, e1, bindS_pure, rows_l2 ss (room rs) (by rw [room_keys]; exact hg.nodup) (by simp [room]; omega) (fun s hs => by rw [room_keys]; exact hg.mem s hs), bindS_pure, bindS_pure]
  have hws : w ∉ ss := fun z => hwn (hg.mem w z)
  have hul : (dicI (decr (room rs) ss)).length < lim := by simp [dicI, decr, room]; have : lim = 100000 := rfl; omega
  have hkn : w ∉ (decr (room rs) ss).map (·.1) := by
    have : (decr (room rs) ss).map (·.1) = names rs := by simp [decr, room, names]
    rw [this]; exact hwn
  have c5 : putS 2 (.str w) (.int 2) [u, .frl (rowsU rs), .dic (dicI (decr (room rs) ss)), .non] = some (.non, [u, .frl (rowsU rs), .dic (dicI (decr (room rs) ss ++ [(w, 2)])), .non]) := by
    show ((U.str w).key.bind fun kk => if (dicI (decr (room rs) ss)).length < lim then some (U.non, [u, .frl (rowsU rs), .dic (dicI (decr (room rs) ss)), .non].set 2 (.dic (putU (dicI (decr (room rs) ss)) kk (.int 2)))) else none) = _
    simp only [U.key, Option.bind_some, if_pos hul, putI_new hkn]
    rfl
  rw [bindS_s c5]
  obtain ⟨p, u1, ep, hu1, p0, p1⟩ := draw_at (t := [.frl (rowsU rs), .dic (dicI (decr (room rs) ss ++ [(w, 2)])), .non]) (n := 2) hu (by decide) (by decide)
  have ee : opS eqV2 (bindS (pureS (consO (some (U.int 2)) (some []))) fun xs => callM 0 (b1 m_law_draw) xs) (pureS (some (U.int 0))) [u, .frl (rowsU rs), .dic (dicI (decr (room rs) ss ++ [(w, 2)])), .non] = some (.bl (p == 0), [u1, .frl (rowsU rs), .dic (dicI (decr (room rs) ss ++ [(w, 2)])), .non]) := opS_s ep rfl rfl
  obtain ⟨ss', es, hss⟩ : ∃ ss', ifS (testS (opS eqV2 (bindS (pureS (consO (some (U.int 2)) (some []))) fun xs => callM 0 (b1 m_law_draw) xs) (pureS (some (U.int 0))))) (pureS (some (U.lst (txs ss)))) (pureS (op2 stepV (some (U.lst (txs ss))) (op1 negV (some (U.int 1))))) [u, .frl (rowsU rs), .dic (dicI (decr (room rs) ss ++ [(w, 2)])), .non] = some (.lst (txs ss'), [u1, .frl (rowsU rs), .dic (dicI (decr (room rs) ss ++ [(w, 2)])), .non]) ∧ (ss' = ss ∨ ss' = ss.reverse) := by
    rw [ifS_s (testS_s' ee)]
    split
    · exact ⟨ss, rfl, .inl rfl⟩
    · refine ⟨ss.reverse, ?_, .inr rfl⟩
      show some (U.lst (txs ss).reverse, _) = _
      simp [txs]
  have hc : ∀ n, ss'.count n = ss.count n := fun n => by
    rcases hss with rfl | rfl
    · rfl
    · exact List.count_reverse ..
  have et : tupS (consS (pureS (some (U.str w))) (consS (callS (c1 tupleV) (consS (ifS (testS (opS eqV2 (bindS (pureS (consO (some (U.int 2)) (some []))) fun xs => callM 0 (b1 m_law_draw) xs) (pureS (some (U.int 0))))) (pureS (some (U.lst (txs ss)))) (pureS (op2 stepV (some (U.lst (txs ss))) (op1 negV (some (U.int 1)))))) (pureS (some [])))) (pureS (some [])))) [u, .frl (rowsU rs), .dic (dicI (decr (room rs) ss ++ [(w, 2)])), .non] = some (rowU (w, ss'), [u1, .frl (rowsU rs), .dic (dicI (decr (room rs) ss ++ [(w, 2)])), .non]) := by
    unfold tupS
    rw [bindS_s (consS_s rfl (consS_s ((callS_s (consS_s es rfl)).trans rfl) rfl))]
    rfl
  have hrl : (rowsU rs).length < lim := by simp [rowsU]; have : lim = 100000 := rfl; omega
  have c4 : appS 1 (rowU (w, ss')) [u1, .frl (rowsU rs), .dic (dicI (decr (room rs) ss ++ [(w, 2)])), .non] = some (.non, [u1, .frl (rowsU (rs ++ [(w, ss')])), .dic (dicI (decr (room rs) ss ++ [(w, 2)])), .non]) := by
    show (if (rowsU rs).length < lim then some (U.non, [u1, .frl (rowsU rs), .dic (dicI (decr (room rs) ss ++ [(w, 2)])), .non].set 1 (.frl (rowsU rs ++ [rowU (w, ss')]))) else none) = _
    rw [if_pos hrl]
    simp [rowsU]
  refine ⟨u1, ss', ?_, hu1, hss⟩
  rw [bindS_s ((bindS_s et).trans c4)]
  rw [room_snoc hg.src hwn hws hc]
  rfl
def midR (kL : U → SM U) (w : U) (l : List U) (d fr : U) : SM U := (ifS (andS (pureS (testO (op2 gtV (callO lenV (consO (some fr) (some []))) (some (U.int 1))))) (andS (pureS (testO (op2 gtV (some d) (some (U.int 0))))) (testS (opS eqV2 (bindS (pureS (consO (some (U.int 2)) (some []))) fun xs => callM 0 (b1 m_law_draw) xs) (pureS (some (U.int 0))))))) (bindS (pureS (op2 subV (some d) (some (U.int 1)))) fun x126 => (bindS (bindS (bindS (consS (lockO 3 fun u135 => (compO (fun u141 => (testO (op2 notInV2 (some u141) (some u135)))) (fun u141 => (some u141)) (iterO U.iter (some fr)))) (pureS (some []))) fun xs => callM 0 (b1 m_law_pick) xs) fun y => appS 3 y) fun _ => tailR kL w l x126)) (tailR kL w l d))
theorem rows_cons {kL18 : U → SM U} {u41 : U} {l42 : List U} {x53 : U} : m_law_rows_l1 kL18 (u41 :: l42) x53 = (bindS (lockO 2 fun u58 => (compO (fun u64 => (testO (op2 gtV (op2 getV (some u58) (some u64)) (some (U.int 0))))) (fun u64 => (some u64)) (iterO U.iter (some u58)))) fun x67 => (bindS (nlstS (pureS (some []))) fun u => addS u (ifS (lockT 1 fun u83 => (testO (op2 neV2 (some u83) (lstO (some []))))) (bindS (opS getV (pureS (some x67)) (callS maxA (consS (pureS (some (U.int 0))) (consS (opS subV (pureS (op2 subV (callO lenV (consO (some x67) (some []))) (some (U.int 1)))) (bindS (pureS (consO (some (U.int 4)) (some []))) fun xs => callM 0 (b1 m_law_draw) xs)) (pureS (some [])))))) fun x98 => (bindS (bindS (ifS (testS (opS gtV (bindS (pureS (consO (some (U.int 3)) (some []))) fun xs => callM 0 (b1 m_law_draw) xs) (pureS (some (U.int 0))))) (pureS (some x98)) (bindS (pureS (consO (some x67) (some []))) fun xs => callM 0 (b1 m_law_pick) xs)) fun y => appS 3 y) fun _ => midR kL18 u41 l42 x53 x67)) (midR kL18 u41 l42 x53 x67)))) := rfl
theorem eqO_ss {n : Nat} {a b : Str} : eqO (n + 1) (.str a) (.str b) = some (a == b) := by simp [eqO, eqK]
theorem inO_tx {n : Nat} {s : Str} : ∀ {ss : List Str}, inO (n + 1) (.str s) (txs ss) = some (decide (s ∈ ss))
  | [] => rfl
  | x :: ss => by
    show (eqO (n + 1) (.str x) (.str s)).bind (fun a => (inO (n + 1) (.str s) (txs ss)).map fun b => a || b) = _
    rw [eqO_ss, inO_tx, Option.bind_some, Option.map_some]
    congr 1
    by_cases e : x = s
    · subst e; simp
    · have e2 : ¬ s = x := fun z => e z.symm
      simp [e, e2]
theorem notIn_frl {s : Str} {ss : List Str} : notInV2 (.str s) (.frl (txs ss)) = some (.bl (!decide (s ∈ ss))) := by
  show (inO dep (.str s) (txs ss)).map (fun b => U.bl (!b)) = _
  rw [show dep = 39 + 1 from rfl, inO_tx]
  rfl
theorem mid_ok {kL : U → SM U} {l : List U} {u : U} {rs : List Row} {w : Str} {ss : List Str} {d : Int} (hg : Good rs ss) (h1 : ss.length ≤ 1) (hl : rs.length < 900) (hu : Urn u) (hww : Word w) (hwn : w ∉ names rs) :
    ∃ u' ss' d', midR kL (.str w) l (.int d) (.lst (txs (freeL rs))) [u, .frl (rowsU rs), .dic (dicI (room rs)), .frl (txs ss)] = m_law_rows_l1 kL l (.int d') [u', .frl (rowsU (rs ++ [(w, ss')])), .dic (dicI (room (rs ++ [(w, ss')])))] ∧ Urn u' ∧ Good rs ss' := by
  unfold midR
  have hfl : (freeL rs).length < 1000 := by
    have := List.length_filter_le (fun n => decide (cnt rs n < 2)) (names rs)
    have h2 : (names rs).length = rs.length := by simp [names]
    show ((names rs).filter _).length < 1000
    omega
  have fin : ∀ (u : U) (ss : List Str) (d : Int), Urn u → Good rs ss → ∃ u' ss' d', tailR kL (.str w) l (.int d) [u, .frl (rowsU rs), .dic (dicI (room rs)), .frl (txs ss)] = m_law_rows_l1 kL l (.int d') [u', .frl (rowsU (rs ++ [(w, ss')])), .dic (dicI (room (rs ++ [(w, ss')])))] ∧ Urn u' ∧ Good rs ss' := fun u ss d hu hg => by
    obtain ⟨u', ss', e, hu', h⟩ := tail_ok (kL := kL) (l := l) (d := .int d) hg hl hu hwn
    refine ⟨u', ss', d, e, hu', ?_⟩
    rcases h with rfl | rfl
    · exact hg
    · exact hg.rev
  have el : testO (op2 gtV (callO lenV (consO (some (U.lst (txs (freeL rs)))) (some []))) (some (U.int 1))) = some (decide (1 < (freeL rs).length)) := by
    have : callO lenV (consO (some (U.lst (txs (freeL rs)))) (some [])) = some (.int (freeL rs).length) := by simp [lenV, txs]
    rw [this, op2_s, gtV_i, testO_s]
    simp only [Option.some.injEq, decide_eq_decide]
    omega
  obtain ⟨b, u1, ec, hu1, hb⟩ : ∃ b u1, andS (pureS (testO (op2 gtV (callO lenV (consO (some (U.lst (txs (freeL rs)))) (some []))) (some (U.int 1))))) (andS (pureS (testO (op2 gtV (some (U.int d)) (some (U.int 0))))) (testS (opS eqV2 (bindS (pureS (consO (some (U.int 2)) (some []))) fun xs => callM 0 (b1 m_law_draw) xs) (pureS (some (U.int 0)))))) [u, .frl (rowsU rs), .dic (dicI (room rs)), .frl (txs ss)] = some (b, [u1, .frl (rowsU rs), .dic (dicI (room rs)), .frl (txs ss)]) ∧ Urn u1 ∧ (b = true → 1 < (freeL rs).length) := by
    rw [el, andS_s (x := decide (1 < (freeL rs).length)) (us1 := [u, .frl (rowsU rs), .dic (dicI (room rs)), .frl (txs ss)]) rfl]
    split
    · rename_i h2
      have h2 : 1 < (freeL rs).length := by simpa using h2
      rw [andS_s (x := decide (0 < d)) (us1 := [u, .frl (rowsU rs), .dic (dicI (room rs)), .frl (txs ss)]) rfl]
      split
      · obtain ⟨p, u1, ep, hu1, p0, p1⟩ := draw_at (t := [.frl (rowsU rs), .dic (dicI (room rs)), .frl (txs ss)]) (n := 2) hu (by decide) (by decide)
        have ee : opS eqV2 (bindS (pureS (consO (some (U.int 2)) (some []))) fun xs => callM 0 (b1 m_law_draw) xs) (pureS (some (U.int 0))) [u, .frl (rowsU rs), .dic (dicI (room rs)), .frl (txs ss)] = some (.bl (p == 0), [u1, .frl (rowsU rs), .dic (dicI (room rs)), .frl (txs ss)]) := opS_s ep rfl rfl
        exact ⟨_, u1, testS_s' ee, hu1, fun _ => h2⟩
      · exact ⟨false, u, rfl, hu, fun z => by cases z⟩
    · exact ⟨false, u, rfl, hu, fun z => by cases z⟩
  rw [ifS_s ec]
  cases b with
  | false =>
    rw [if_neg Bool.false_ne_true]
    exact fin u1 ss d hu1 hg
  | true =>
    rw [if_pos rfl]
    have hf2 := hb rfl
    rcases hg with ⟨rfl, rfl⟩ | ⟨hw, g1, g2, g3, g4⟩
    · exact absurd hf2 (by decide)
    rw [op2_s, subV_i, bindS_pure]
    have ef : lockO 3 (fun u135 => (compO (fun u141 => (testO (op2 notInV2 (some u141) (some u135)))) (fun u141 => (some u141)) (iterO U.iter (some (U.lst (txs (freeL rs))))))) [u1, .frl (rowsU rs), .dic (dicI (room rs)), .frl (txs ss)] = some (.lst (txs ((freeL rs).filter fun n => !decide (n ∈ ss))), [u1, .frl (rowsU rs), .dic (dicI (room rs)), .frl (txs ss)]) := by
      refine lockO_s rfl rfl ?_ (by simp [U.pl, txs_pl])
      have hlim : lim = 100000 := rfl
      exact lcO_mf (p := fun u141 => (testO (op2 notInV2 (some u141) (some (U.frl (txs ss)))))) (f := fun u141 => (some u141)) (g := U.str) (q := fun n => !decide (n ∈ ss)) (h := U.str) (freeL rs) (by omega) (fun n hn => by rw [op2_s, notIn_frl]; rfl) (fun n _ _ => rfl)
    have hne : (freeL rs).filter (fun n => !decide (n ∈ ss)) ≠ [] := fun z => by
      have hsub : ∀ n ∈ freeL rs, n ∈ ss := fun n hn => by
        have := List.filter_eq_nil_iff.mp z n hn
        simpa using this
      have nd : (freeL rs).Nodup := hw.nodup.filter _
      have := nodup_le nd hsub
      omega
    have hpl : (txs ((freeL rs).filter fun n => !decide (n ∈ ss))).length ≤ lim := by
      rw [txs_length]
      have := List.length_filter_le (fun n => !decide (n ∈ ss)) (freeL rs)
      have : lim = 100000 := rfl
      omega
    obtain ⟨x, u2, ep, hu2, hx⟩ := pick_at (t := [.frl (rowsU rs), .dic (dicI (room rs)), .frl (txs ss)]) (xs := txs ((freeL rs).filter fun n => !decide (n ∈ ss))) hu1 (by simpa [txs] using hne) hpl
    obtain ⟨n, hn, rfl⟩ := List.mem_map.mp hx
    have hn := List.mem_filter.mp hn
    have hsl : (txs ss).length < lim := by rw [txs_length]; have : lim = 100000 := rfl; omega
    have ea : appS 3 (.str n) [u2, .frl (rowsU rs), .dic (dicI (room rs)), .frl (txs ss)] = some (.non, [u2, .frl (rowsU rs), .dic (dicI (room rs)), .frl (txs (ss ++ [n]))]) := by
      show (if (txs ss).length < lim then some (U.non, [u2, .frl (rowsU rs), .dic (dicI (room rs)), .frl (txs ss)].set 3 (.frl (txs ss ++ [.str n]))) else none) = _
      rw [if_pos hsl]
      simp [txs]
    rw [bindS_s ((bindS_s ((bindS_s (consS_s ef rfl)).trans ep)).trans ea)]
    refine fin u2 (ss ++ [n]) (d - 1) hu2 (.inr ⟨hw, by simp, by rw [List.length_append, List.length_singleton]; omega, ?_, fun s hs => ?_⟩)
    · rw [List.nodup_append]
      refine ⟨g3, by simp, fun a ha b hb e => ?_⟩
      simp at hb
      subst hb
      subst e
      have := hn.2
      simp [ha] at this
    · rcases List.mem_append.mp hs with hs | hs
      · exact g4 s hs
      · simp at hs; subst hs; exact free_mem.mp hn.1
theorem turn_ok {kL : U → SM U} {l : List U} {u : U} {rs : List Row} {w : Str} {d : Int} (hw : rs = [] ∨ Web rs) (hl : rs.length < 900) (hu : Urn u) (hww : Word w) (hwn : w ∉ names rs) :
    ∃ u' ss' d', m_law_rows_l1 kL (.str w :: l) (.int d) [u, .frl (rowsU rs), .dic (dicI (room rs))] = m_law_rows_l1 kL l (.int d') [u', .frl (rowsU (rs ++ [(w, ss')])), .dic (dicI (room (rs ++ [(w, ss')])))] ∧ Urn u' ∧ Good rs ss' := by
  have nd : (names rs).Nodup := by
    rcases hw with rfl | hw
    · exact .nil
    · exact hw.nodup
  rw [rows_cons, bindS_s (free_ok nd (by omega) rfl)]
  show ∃ u' ss' d', ifS _ _ _ [u, .frl (rowsU rs), .dic (dicI (room rs)), .frl (txs [])] = _ ∧ _
  have q1 : lockT 1 (fun u83 => (testO (op2 neV2 (some u83) (lstO (some []))))) [u, .frl (rowsU rs), .dic (dicI (room rs)), .frl (txs [])] = some (!(rowsU rs).isEmpty, [u, .frl (rowsU rs), .dic (dicI (room rs)), .frl (txs [])]) := lockT_s rfl rfl ne_nil
  rw [ifS_s q1]
  rcases hw with rfl | hw
  · rw [if_neg (by simp [rowsU])]
    exact mid_ok (.inl ⟨rfl, rfl⟩) (by simp) hl hu hww hwn
  · have hne : (!(rowsU rs).isEmpty) = true := by
      cases rs with
      | nil => exact absurd rfl hw.ne
      | cons _ _ => rfl
    rw [if_pos hne]
    have hfp : 0 < (freeL rs).length := List.length_pos_iff.mpr hw.free
    have hfl : (freeL rs).length < 1000 := by
      have := List.length_filter_le (fun n => decide (cnt rs n < 2)) (names rs)
      have h2 : (names rs).length = rs.length := by simp [names]
      show ((names rs).filter _).length < 1000
      omega
    obtain ⟨p, u1, ep, hu1, p0, p1⟩ := draw_at (t := [.frl (rowsU rs), .dic (dicI (room rs)), .frl (txs [])]) (n := 4) hu (by decide) (by decide)
    have el : op2 subV (callO lenV (consO (some (U.lst (txs (freeL rs)))) (some []))) (some (U.int 1)) = some (.int ((freeL rs).length - 1)) := by
      have : callO lenV (consO (some (U.lst (txs (freeL rs)))) (some [])) = some (.int (freeL rs).length) := by simp [lenV, txs]
      rw [this, op2_s, subV_i]
    have e2 : callS maxA (consS (pureS (some (U.int 0))) (consS (opS subV (pureS (op2 subV (callO lenV (consO (some (U.lst (txs (freeL rs)))) (some []))) (some (U.int 1)))) (bindS (pureS (consO (some (U.int 4)) (some []))) fun xs => callM 0 (b1 m_law_draw) xs)) (pureS (some [])))) [u, .frl (rowsU rs), .dic (dicI (room rs)), .frl (txs [])] = some (.int (if ((freeL rs).length : Int) - 1 - p > 0 then ((freeL rs).length : Int) - 1 - p else 0), [u1, .frl (rowsU rs), .dic (dicI (room rs)), .frl (txs [])]) := by
      rw [el]
      have ep' : bindS (pureS (consO (some (U.int 4)) (some []))) (fun xs => callM 0 (b1 m_law_draw) xs) [u, .frl (rowsU rs), .dic (dicI (room rs)), .frl (txs [])] = some (.int p, [u1, .frl (rowsU rs), .dic (dicI (room rs)), .frl (txs [])]) := ep
      have eo := opS_s (f := subV) (F := pureS (some (U.int ((freeL rs).length - 1)))) (us := [u, .frl (rowsU rs), .dic (dicI (room rs)), .frl (txs [])]) rfl ep' (subV_i (i := (freeL rs).length - 1) (j := p))
      rw [callS_s (consS_s (a := .int 0) (us1 := [u, .frl (rowsU rs), .dic (dicI (room rs)), .frl (txs [])]) rfl (consS_s eo (l := []) (us2 := [u1, .frl (rowsU rs), .dic (dicI (room rs)), .frl (txs [])]) rfl))]
      rfl
    have hi0 : (0 : Int) ≤ (if ((freeL rs).length : Int) - 1 - p > 0 then ((freeL rs).length : Int) - 1 - p else 0) := by split <;> omega
    have hi1 : (if ((freeL rs).length : Int) - 1 - p > 0 then ((freeL rs).length : Int) - 1 - p else 0) < (txs (freeL rs)).length := by rw [txs_length]; split <;> omega
    obtain ⟨x, ex, hx⟩ := atI_int hi0 hi1
    obtain ⟨n, hn, rfl⟩ := List.mem_map.mp (List.mem_of_getElem? hx)
    have e3 := opS_s (f := getV) (F := pureS (some (U.lst (txs (freeL rs))))) (us := [u, .frl (rowsU rs), .dic (dicI (room rs)), .frl (txs [])]) rfl e2 ex
    rw [bindS_s e3]
    obtain ⟨m, u2, e4, hu2, hm⟩ : ∃ m u2, ifS (testS (opS gtV (bindS (pureS (consO (some (U.int 3)) (some []))) fun xs => callM 0 (b1 m_law_draw) xs) (pureS (some (U.int 0))))) (pureS (some (U.str n))) (bindS (pureS (consO (some (U.lst (txs (freeL rs)))) (some []))) fun xs => callM 0 (b1 m_law_pick) xs) [u1, .frl (rowsU rs), .dic (dicI (room rs)), .frl (txs [])] = some (.str m, [u2, .frl (rowsU rs), .dic (dicI (room rs)), .frl (txs [])]) ∧ Urn u2 ∧ m ∈ freeL rs := by
      obtain ⟨p, u2, ep, hu2, p0, p1⟩ := draw_at (t := [.frl (rowsU rs), .dic (dicI (room rs)), .frl (txs [])]) (n := 3) hu1 (by decide) (by decide)
      have ee : opS gtV (bindS (pureS (consO (some (U.int 3)) (some []))) fun xs => callM 0 (b1 m_law_draw) xs) (pureS (some (U.int 0))) [u1, .frl (rowsU rs), .dic (dicI (room rs)), .frl (txs [])] = some (.bl (decide (0 < p)), [u2, .frl (rowsU rs), .dic (dicI (room rs)), .frl (txs [])]) := opS_s ep rfl rfl
      rw [ifS_s (testS_s' ee)]
      split
      · exact ⟨n, u2, rfl, hu2, hn⟩
      · obtain ⟨x, u3, ep, hu3, hx⟩ := pick_at (t := [.frl (rowsU rs), .dic (dicI (room rs)), .frl (txs [])]) (xs := txs (freeL rs)) hu2 (by simpa [txs] using hw.free) (by rw [txs_length]; have : lim = 100000 := rfl; omega)
        obtain ⟨m, hm, rfl⟩ := List.mem_map.mp hx
        exact ⟨m, u3, ep, hu3, hm⟩
    have ea : appS 3 (.str m) [u2, .frl (rowsU rs), .dic (dicI (room rs)), .frl (txs [])] = some (.non, [u2, .frl (rowsU rs), .dic (dicI (room rs)), .frl (txs [m])]) := rfl
    rw [bindS_s ((bindS_s e4).trans ea)]
    exact mid_ok (.inr ⟨hw, by simp, by simp, by simp, fun s hs => by simp at hs; subst hs; exact free_mem.mp hm⟩) (by simp) hl hu2 hww hwn
theorem rows_l1 {kL : U → SM U} : ∀ (ws : List Str) (u : U) (rs : List Row) (d : Int), (rs = [] ∨ Web rs) → rs.length + ws.length < 900 → Urn u → (∀ w ∈ ws, Word w) → ws.Nodup → (∀ w ∈ ws, w ∉ names rs) →
    ∃ u' rs' d', m_law_rows_l1 kL (txs ws) (.int d) [u, .frl (rowsU rs), .dic (dicI (room rs))] = kL (.int d') [u', .frl (rowsU rs'), .dic (dicI (room rs'))] ∧ Urn u' ∧ (rs' = [] ∨ Web rs') ∧ names rs' = names rs ++ ws
  | [], u, rs, d, hw, _, hu, _, _, _ => ⟨u, rs, d, rfl, hu, hw, by simp⟩
  | w :: ws, u, rs, d, hw, hl, hu, hwd, nd, hn => by
    rw [List.length_cons] at hl
    rw [List.nodup_cons] at nd
    obtain ⟨u1, ss, d1, e1, hu1, hg⟩ := turn_ok (kL := kL) (l := txs ws) (d := d) hw (by omega) hu (hwd w (List.mem_cons_self ..)) (hn w (List.mem_cons_self ..))
    have hn1 : ∀ x ∈ ws, x ∉ names (rs ++ [(w, ss)]) := fun x hx z => by
      rw [names_snoc] at z
      rcases List.mem_append.mp z with z | z
      · exact hn x (List.mem_cons_of_mem _ hx) z
      · simp at z; subst z; exact nd.1 hx
    obtain ⟨u2, rs2, d2, e2, hu2, hw2, h2⟩ := rows_l1 (kL := kL) ws u1 (rs ++ [(w, ss)]) d1 (.inr (hg.web (hwd w (List.mem_cons_self ..)) (hn w (List.mem_cons_self ..)))) (by rw [List.length_append, List.length_singleton]; omega) hu1 (fun x hx => hwd x (List.mem_cons_of_mem _ hx)) nd.2 hn1
    refine ⟨u2, rs2, d2, ?_, hu2, hw2, by rw [h2, names_snoc, List.append_assoc]; rfl⟩
    rw [← e2, ← e1]
    rfl
theorem rows_ok {u : U} {n : Nat} {d : Int} (hu : Urn u) (h1 : 1 ≤ n) (hn : n ≤ 44) : ∃ rs u', b2 m_law_rows u [.int n, .int d] = some (.lst (rowsU rs), u') ∧ Urn u' ∧ Web rs ∧ rs.length = n ∧ ∀ w ∈ names rs, w ∈ POOL := by
  obtain ⟨ws, u1, e1, hu1, hl, nd, hp⟩ := labels_ok hu hn
  obtain ⟨u2, rs2, d2, e2, hu2, hw2, h2⟩ := rows_l1 (kL := fun x495 => (bindS (takeS 1) fun x504 => (pureS (some x504)))) ws u1 [] d (.inl rfl) (by simp; omega) hu1 (fun x hx => pool_words x (hp x hx)) nd (fun x hx z => by cases z)
  have h2 : names rs2 = ws := h2
  have hlen : rs2.length = n := by rw [← hl, ← h2]; simp [names]
  have hw : Web rs2 := by
    rcases hw2 with rfl | hw
    · simp at hlen; omega
    · exact hw
  refine ⟨rs2, u2, ?_, hu2, hw, hlen, fun w hw => hp w (h2 ▸ hw)⟩
  show finS (m_law_rows (.int n) (.int d) [u]) = _
  have e3 : bindS (pureS (consO (some (U.int n)) (some []))) (fun xs => callM 0 (b1 m_law_labels) xs) [u, .frl [], .dic []] = some (.lst (txs ws), [u1, .frl [], .dic []]) := callM_s (us := [u, .frl [], .dic []]) (j := 0) rfl hu.own e1
  have e4 : m_law_rows (.int n) (.int d) [u] = m_law_rows_l1 (fun x495 => (bindS (takeS 1) fun x504 => (pureS (some x504)))) (txs ws) (.int d) [u1, .frl (rowsU []), .dic (dicI (room []))] := by
    unfold m_law_rows
    have e5 : iterS (bindS (pureS (consO (some (U.int n)) (some []))) fun xs => callM 0 (b1 m_law_labels) xs) [u, .frl [], .dic []] = some (txs ws, [u1, .frl [], .dic []]) := by
      unfold iterS
      rw [bindS_s e3]
      rfl
    rw [bindS_s (show nlstS (pureS (some [])) [u] = some (.frl [], [u]) from rfl), bindS_pure]
    rw [withK_s]
    show bindS _ (fun xs21 => m_law_rows_l1 _ xs21 (U.int d)) [u, .frl [], .dic []] = _
    rw [bindS_s e5]
    rfl
  rw [e4, e2]
  simp [takeS, bindS, finS, hu2.own]

end K06
set_option Elab.async false
set_option linter.all false
set_option maxRecDepth 100000
set_option maxHeartbeats 2000000
namespace K06
open PySem L2 Dn
/-! ### the text -/
def partT (r : Row) : Str := Txt.join " " (r.1 :: r.2)
def textT (rs : List Row) : Str := Txt.join "; " (rs.map partT)
theorem Web.src_word {rs : List Row} (h : Web rs) {r : Row} (hr : r ∈ rs) : ∀ s ∈ r.2, Word s := fun s hs => h.words s (h.src s (List.mem_flatMap.mpr ⟨r, hr, hs⟩))
theorem Web.row_two {rs : List Row} (h : Web rs) : ∀ r ∈ rs, r.2.length ≤ 2 := by
  induction h with
  | one _ => intro r hr; simp at hr; subst hr; simp
  | snoc _ _ _ _ h2 _ _ ih =>
    intro r hr
    rcases List.mem_append.mp hr with hr | hr
    · exact ih r hr
    · simp at hr; subst hr; exact h2
theorem Word.len {w : Str} (h : Word w) : w.length ≤ 8 := by rw [TL.len_tl]; exact h.2.1
theorem sum_le {α : Type} {f : α → Nat} {b : Nat} : ∀ {l : List α}, (∀ a ∈ l, f a ≤ b) → (l.map f).sum ≤ l.length * b
  | [], _ => by simp
  | a :: l, h => by
    have ih := sum_le (f := f) (l := l) fun x hx => h x (List.mem_cons_of_mem _ hx)
    have h1 := h a (List.mem_cons_self ..)
    rw [List.map_cons, List.sum_cons, List.length_cons, Nat.add_mul, Nat.one_mul]
    omega
theorem part_sum {rs : List Row} (h : Web rs) {r : Row} (hr : r ∈ rs) : ((r.1 :: r.2).map (·.length)).sum + (r.1 :: r.2).length * (" " : Str).length ≤ 27 := by
  have h1 : ∀ s ∈ r.1 :: r.2, s.length ≤ 8 := fun s hs => by
    rcases List.mem_cons.mp hs with rfl | hs
    · exact (h.words _ (List.mem_map.mpr ⟨r, hr, rfl⟩)).len
    · exact (h.src_word hr s hs).len
  have h2 := sum_le (f := fun s : Str => s.length) h1
  have h3 := h.row_two r hr
  have h4 : (" " : Str).length = 1 := by decide +kernel
  rw [h4]
  simp only [List.length_cons] at h2 ⊢
  omega
theorem part_len {rs : List Row} (h : Web rs) {r : Row} (hr : r ∈ rs) : (partT r).length ≤ 27 := Nat.le_trans (join_length _ _) (part_sum h hr)
theorem text_sum {rs : List Row} (h : Web rs) (hl : rs.length ≤ 40) : ((rs.map partT).map (·.length)).sum + (rs.map partT).length * ("; " : Str).length ≤ 1160 := by
  have h2 := sum_le (f := fun r => (partT r).length) (l := rs) (b := 27) fun r hr => part_len h hr
  have h4 : ("; " : Str).length = 2 := by decide +kernel
  rw [h4, List.map_map, List.length_map]
  have e : (rs.map ((fun x => x.length) ∘ partT)) = rs.map fun r => (partT r).length := rfl
  rw [e]
  omega
theorem text_ok {rs : List Row} (h : Web rs) (hl : rs.length ≤ 40) : m_law_said (.lst (rowsU rs)) = some (.str (textT rs)) := by
  unfold m_law_said
  have hlim : lim = 100000 := rfl
  have e : compO2 (fun u4 u7 => (some true)) (fun u4 u7 => (op2 joinV (some (U.str " ")) (op2 addV (lstO (consO (some u4) (some []))) (callO (c1 listB) (consO (some u7) (some [])))))) (iterO U.iter (some (U.lst (rowsU rs)))) = some (.lst ((rs.map partT).map U.str)) := by
    have := lcO_mf (p := fun u => (unp2 u).bind fun _ => some true) (f := fun u => (unp2 u).bind fun ab => op2 joinV (some (U.str " ")) (op2 addV (lstO (consO (some ab.1) (some []))) (callO (c1 listB) (consO (some ab.2) (some []))))) (g := rowU) (q := fun _ => true) (h := fun r => U.str (partT r)) rs (by omega) (fun _ _ => rfl) (fun r hr _ => by
      have h2 := h.row_two r hr
      show op2 joinV (some (U.str " ")) (op2 addV (some (U.lst [.str r.1])) (some (.lst (txs r.2)))) = _
      have ea : addV (U.lst [.str r.1]) (.lst (txs r.2)) = some (.lst ((r.1 :: r.2).map U.str)) := by
        show (if [U.str r.1].length + (txs r.2).length ≤ lim then some (U.lst ([U.str r.1] ++ txs r.2)) else none) = _
        rw [if_pos (by rw [txs_length]; simp; omega)]
        rfl
      rw [op2_s, ea, op2_s]
      exact join_lst (Nat.le_trans (part_sum h hr) (by decide)))
    rw [List.filter_eq_self.mpr (fun _ _ => rfl)] at this
    rw [List.map_map]
    exact this
  rw [e, op2_s]
  exact join_lst (Nat.le_trans (text_sum h hl) (by decide))
theorem text_len {rs : List Row} (h : Web rs) (hl : rs.length ≤ 40) : (textT rs).length ≤ 1160 := Nat.le_trans (join_length _ _) (text_sum h hl)
theorem split_text {rs : List Row} (h : Web rs) (hl : rs.length ≤ 40) : splitV (.str (textT rs)) (.str "; ") = some (.lst (txs (rs.map partT))) := by
  have hk : ("; " : Str).length ≠ 0 := by decide +kernel
  have hlen := text_len h hl
  have hlim : lim = 100000 := rfl
  show (if ("; " : Str).length ≠ 0 ∧ (textT rs).length ≤ lim then some (U.lst ((Txt.split (textT rs) "; ").map U.str)) else none) = _
  rw [if_pos ⟨hk, by omega⟩]
  have e : Txt.split (textT rs) "; " = rs.map partT := by
    refine TL.split_join (s := 59) (S := [32]) (by decide +kernel) (by decide +kernel) ?_ fun p hp hc => ?_
    · simpa using h.ne
    · obtain ⟨r, hr, rfl⟩ := List.mem_map.mp hp
      have hc : 59 ∈ TL.tl (Txt.join " " (r.1 :: r.2)) := hc
      rw [TL.join_eq, TL.tl_join] at hc
      rcases mem_joinL hc with hc | ⟨p, hp, hc⟩
      · exact absurd hc (by decide +kernel)
      · obtain ⟨s, hs, rfl⟩ := List.mem_map.mp hp
        have hw : Word s := by
          rcases List.mem_cons.mp hs with rfl | hs
          · exact h.words _ (List.mem_map.mpr ⟨r, hr, rfl⟩)
          · exact h.src_word hr s hs
        have := hw.2.2 59 hc
        omega
  rw [e]
  rfl
theorem split_part {r : Row} (hw : ∀ s ∈ r.1 :: r.2, Word s) (hl : (partT r).length ≤ 27) : splitV (.str (partT r)) (.str " ") = some (.lst (txs (r.1 :: r.2))) := by
  have hk : (" " : Str).length ≠ 0 := by decide +kernel
  have hlim : lim = 100000 := rfl
  show (if (" " : Str).length ≠ 0 ∧ (partT r).length ≤ lim then some (U.lst ((Txt.split (partT r) " ").map U.str)) else none) = _
  rw [if_pos ⟨hk, by omega⟩]
  have e : Txt.split (partT r) " " = r.1 :: r.2 := by
    refine TL.split_join (s := 32) (S := []) (by decide +kernel) (by decide +kernel) (by simp) fun p hp hc => ?_
    have := (hw p hp).2.2 32 hc
    omega
  rw [e]
  rfl

/-! ### dicts with text keys -/
def strDic (l : List (Str × U)) : List (Key × U) := l.map fun kv => (Sum.inr kv.1, kv.2)
theorem look_dic {n : Str} : ∀ (l : List (Str × U)), lookK (strDic l) (Sum.inr n) = l.lookup n
  | [] => rfl
  | (k, v) :: l => by
    have ih := look_dic (n := n) l
    by_cases e : k = n
    · subst e
      simp [lookK, strDic, List.lookup]
    · have e2 : decide ((Sum.inr k : Key) = Sum.inr n) = false := by simp [e]
      have e3 : (n == k) = false := by simpa using fun z => e z.symm
      simp only [lookK, strDic, List.map_cons, List.find?_cons, List.lookup_cons] at ih ⊢
      rw [e2, e3]
      exact ih
theorem lookup_some {β : Type} {n : Str} {v : β} : ∀ {l : List (Str × β)}, (l.map (·.1)).Nodup → (n, v) ∈ l → l.lookup n = some v
  | [], _, h => by cases h
  | (k, x) :: l, nd, h => by
    rw [List.map_cons, List.nodup_cons] at nd
    rw [List.lookup_cons]
    by_cases e : n = k
    · subst e
      rcases List.mem_cons.mp h with h | h
      · cases h; simp
      · exact absurd (List.mem_map.mpr ⟨_, h, rfl⟩) nd.1
    · have e3 : (n == k) = false := by simpa using e
      rw [e3]
      rcases List.mem_cons.mp h with h | h
      · cases h; exact absurd rfl e
      · exact lookup_some nd.2 h
theorem lookup_isSome {β : Type} {n : Str} : ∀ {l : List (Str × β)}, (l.lookup n).isSome = decide (n ∈ l.map (·.1))
  | [] => by simp
  | (k, x) :: l => by
    rw [List.lookup_cons]
    by_cases e : n = k
    · subst e; simp
    · have e3 : (n == k) = false := by simpa using e
      rw [e3]
      have := lookup_isSome (n := n) (l := l)
      simp only [this, List.map_cons, List.mem_cons, e, false_or]
theorem in_dic {n : Str} {l : List (Str × U)} : inV2 (.str n) (.dic (strDic l)) = some (.bl (decide (n ∈ l.map (·.1)))) := by
  show ((((U.str n).key.map fun k => lookK (strDic l) k)).map Option.isSome).map U.bl = _
  simp only [U.key, Option.map_some, look_dic, lookup_isSome]
theorem get_dic {n : Str} {v : U} {l : List (Str × U)} (nd : (l.map (·.1)).Nodup) (h : (n, v) ∈ l) : getV (.dic (strDic l)) (.str n) = some v := by
  show (((U.str n).key.map fun k => lookK (strDic l) k)).bind id = _
  simp only [U.key, Option.map_some, look_dic, lookup_some nd h]
  rfl
/-! ### words -/
theorem letters : ("abcdefghijklmnopqrstuvwxyz" : Str).cps.toList = List.range' 97 26 := by decide +kernel
theorem is_name_ok {w : Str} (h : Word w) : m_is_name (.str w) = some (.bl true) := by
  unfold m_is_name
  have hl := h.len
  have hlim : lim = 100000 := rfl
  have e1 : callO lenV (consO (some (U.str w)) (some [])) = some (.int w.length) := by
    show (if w.length ≤ lim then some (U.int w.length) else none) = _
    rw [if_pos (by omega)]
  have h0 : 0 < w.length := by rw [TL.len_tl]; exact h.1
  have e2 : chainO leV leV (some (U.int 1)) (some (U.int w.length)) (some (U.int 8)) = some (.bl true) := by
    rw [chainO_s (leV_i (i := 1) (j := w.length))]
    have : decide ((1 : Int) ≤ w.length) = true := by simp; omega
    rw [this, if_pos rfl, leV_i]
    simp; omega
  have e3 : compO (fun u4 => (some true)) (fun u4 => (op2 inV2 (some u4) (some (U.str "abcdefghijklmnopqrstuvwxyz")))) (iterO U.signs (some (U.str w))) = some (.lst ((tl w).map fun c => U.bl true)) := by
    refine lcO_map (g := fun c => U.str ⟨#[c]⟩) (h := fun c => U.bl true) (tl w) (by have := h.2.1; omega) fun c hc => ?_
    show ((U.str ⟨#[c]⟩).sign.map fun c => decide (c ∈ ("abcdefghijklmnopqrstuvwxyz" : Str).cps.toList)).map U.bl = _
    rw [letters]
    have := h.2.2 c hc
    show some (U.bl (decide (c ∈ List.range' 97 26))) = _
    rw [decide_eq_true (by rw [List.mem_range']; exact ⟨c - 97, by omega, by omega⟩)]
  have e0 : isO isStrB (some (U.str w)) = some (.bl true) := rfl
  rw [e0, e1, e2, e3, andV_t, andV_t, consO_s, callO_s, all_map (p := fun _ => true)]
  simp
def orgL (rs : List Row) : List (Str × U) := rs.map fun r => (r.1, .tup (txs r.2))
theorem orgL_keys {rs : List Row} : (orgL rs).map (·.1) = names rs := by simp [orgL, names]
theorem len_dic {l : List (Key × U)} : callO lenV (consO (some (U.dic l)) (some [])) = some (.int l.length) := rfl
theorem len_lst {l : List U} : callO lenV (consO (some (U.lst l)) (some [])) = some (.int l.length) := rfl
theorem len_tup {l : List U} : callO lenV (consO (some (U.tup l)) (some [])) = some (.int l.length) := rfl
theorem eqV2_ii {i j : Int} : eqV2 (.int i) (.int j) = some (.bl (i == j)) := rfl
theorem eqV2_ss {i j : Str} : eqV2 (.str i) (.str j) = some (.bl (i == j)) := rfl
theorem hasT_false {ts : List Str} (nd : ts.Nodup) {i : Nat} (h : i < ts.length) : hasT ts i (ts.getD i Str.empty) = false := by
  have e : ts.getD i Str.empty = ts[i] := by simp [List.getD, h]
  rw [e]
  unfold hasT
  rw [List.any_eq_false]
  intro x hx he
  have he : x = ts[i] := by simpa using he
  subst he
  obtain ⟨j, hj, e2⟩ := List.mem_iff_getElem.mp hx
  rw [List.length_take] at hj
  rw [List.getElem_take] at e2
  exact (List.pairwise_iff_getElem.mp nd) j i (by omega) h (by omega) e2
theorem dnT_nodup {ts : List Str} (nd : ts.Nodup) : ∀ i, i ≤ ts.length → dnT ts i = i
  | 0, _ => rfl
  | i + 1, h => by
    show (if hasT ts i (ts.getD i Str.empty) = true then dnT ts i else dnT ts i + 1) = i + 1
    rw [hasT_false nd (by omega), dnT_nodup nd i (by omega)]
    simp
theorem strsU_txs {ss : List Str} : strsU (txs ss) = some ss := strsU_map ss
theorem are_sources_ok {pre : List Row} {ss : List Str} (h1 : ss ≠ []) (h2 : ss.length ≤ 2) (nd : ss.Nodup) (hs : ∀ s ∈ ss, s ∈ names pre) : m_are_sources (.lst (txs ss)) (.dic (strDic (orgL pre))) = some (.bl true) := by
  unfold m_are_sources
  have hlim : lim = 100000 := rfl
  have hpos := List.length_pos_iff.mpr h1
  have e1 : chainO leV leV (some (U.int 1)) (some (U.int ss.length)) (some (U.int 2)) = some (.bl true) := by
    rw [chainO_s (leV_i (i := 1) (j := ss.length))]
    have : decide ((1 : Int) ≤ ss.length) = true := by simp; omega
    rw [this, if_pos rfl, leV_i]
    simp; omega
  have e2 : compO (fun u4 => (some true)) (fun u4 => (andV (isO isStrB (some u4)) (op2 inV2 (some u4) (some (U.dic (strDic (orgL pre))))))) (iterO U.iter (some (U.lst (txs ss)))) = some (.lst (ss.map fun _ => U.bl true)) := by
    refine lcO_map (g := U.str) (h := fun _ => U.bl true) ss (by omega) fun s hs' => ?_
    have : isO isStrB (some (U.str s)) = some (.bl true) := rfl
    rw [this, andV_t, op2_s, in_dic, orgL_keys, decide_eq_true (hs s hs')]
  have e3 : op1 lenSetV (some (U.lst (txs ss))) = some (.int ss.length) := by
    show (strsU (txs ss)).bind (fun ts => if ts.length < 4000 then some (U.int (dnT ts ts.length : Nat)) else none) = _
    rw [strsU_txs, Option.bind_some, if_pos (by omega), dnT_nodup nd _ (Nat.le_refl _)]
  rw [len_lst, txs_length, e1, e2, e3, consO_s, callO_s, all_map (p := fun _ => true), op2_s, eqV2_ii, List.all_eq_true.mpr (fun _ _ => rfl)]
  simp
structure Next (pre : List Row) (w : Str) (ss : List Str) : Prop where
  word : Word w
  new : w ∉ names pre
  size : pre.length < 40
  first : pre = [] → ss = []
  later : pre ≠ [] → ss ≠ [] ∧ ss.length ≤ 2
  nd : ss.Nodup
  src : ∀ s ∈ ss, s ∈ names pre ∧ cnt pre s < 2
theorem Web.next {rs : List Row} (h : Web rs) : ∀ (pre : List Row) (r : Row) (suf : List Row), rs = pre ++ r :: suf → rs.length ≤ 40 → (pre = [] ∨ Web pre) ∧ Next pre r.1 r.2 := by
  induction h with
  | @one w hw =>
    intro pre r suf e hl
    cases pre with
    | nil =>
      cases e
      exact ⟨.inl rfl, hw, by simp [names], by simp, fun _ => rfl, fun z => absurd rfl z, by simp, fun s hs => by cases hs⟩
    | cons a pre => simp at e
  | @snoc rs w ss hr hw hn hne h2 nd hs ih =>
    intro pre r suf e hl
    rcases List.eq_nil_or_concat suf with rfl | ⟨suf', x, rfl⟩
    · have e2 : rs ++ [(w, ss)] = pre ++ [r] := e
      obtain ⟨rfl, e3⟩ := List.append_inj' e2 rfl
      cases e3
      rw [List.length_append, List.length_singleton] at hl
      exact ⟨.inr hr, hw, hn, by omega, fun z => absurd z hr.ne, fun _ => ⟨hne, h2⟩, nd, hs⟩
    · have e2 : rs ++ [(w, ss)] = (pre ++ r :: suf') ++ [x] := by rw [e]; simp
      obtain ⟨e3, _⟩ := List.append_inj' e2 rfl
      rw [List.length_append, List.length_singleton] at hl
      exact ih pre r suf' e3 (by omega)
theorem put_org {pre : List Row} {w : Str} {ss : List Str} (hn : w ∉ names pre) : putU (strDic (orgL pre)) (Sum.inr w) (.tup (txs ss)) = strDic (orgL (pre ++ [(w, ss)])) := by
  have ha : ¬ ((strDic (orgL pre)).any fun kv => decide (kv.1 = Sum.inr w)) = true := by
    rw [List.any_eq_true]
    rintro ⟨kv, hm, e⟩
    obtain ⟨⟨k, v⟩, hk, rfl⟩ := List.mem_map.mp hm
    obtain ⟨r, hr, e2⟩ := List.mem_map.mp hk
    cases e2
    simp at e
    exact hn (List.mem_map.mpr ⟨r, hr, e⟩)
  unfold putU
  rw [if_neg ha]
  simp [strDic, orgL]
theorem web_l1 {k : SM U} {rs : List Row} (h : Web rs) (hl : rs.length ≤ 40) : ∀ (suf pre : List Row), rs = pre ++ suf → m_web_in_l1 k (txs (suf.map partT)) [.dic (strDic (orgL pre))] = k [.dic (strDic (orgL rs))]
  | [], pre, e => by rw [List.append_nil] at e; subst e; rfl
  | r :: suf, pre, e => by
    obtain ⟨_, nx⟩ := h.next pre r suf e hl
    have hr : r ∈ rs := by rw [e]; simp
    have ih := web_l1 (k := k) h hl suf (pre ++ [r]) (by rw [e]; simp)
    rw [← ih]
    have hlim : lim = 100000 := rfl
    have hw : ∀ s ∈ r.1 :: r.2, Word s := fun s hs => by
      rcases List.mem_cons.mp hs with rfl | hs
      · exact nx.word
      · exact h.src_word hr s hs
    have e0 : op2 splitV (some (U.str (partT r))) (some (U.str " ")) = some (.lst (txs (r.1 :: r.2))) := split_part hw (part_len h hr)
    have g0 : op2 getV (some (U.lst (txs (r.1 :: r.2)))) (some (U.int 0)) = some (.str r.1) := get0n
    have cu : slO (some (U.lst (txs (r.1 :: r.2)))) (ptO (some (U.int 1))) (some none) = some (.lst (txs r.2)) := cut1n
    have e1 : callO (a1 m_is_name) (consO (some (U.str r.1)) (some [])) = some (.bl true) := is_name_ok nx.word
    have e2 : op2 inV2 (some (U.str r.1)) (some (U.dic (strDic (orgL pre)))) = some (.bl false) := by
      rw [op2_s, in_dic, orgL_keys]
      simp [nx.new]
    show bindS (pureS (op2 splitV (some (U.str (partT r))) (some (U.str " ")))) _ _ = _
    rw [e0, bindS_pure]
    have c1 : orS (pureS (notO (testO (callO (a1 m_is_name) (consO (op2 getV (some (U.lst (txs (r.1 :: r.2)))) (some (U.int 0))) (some [])))))) (lockT 0 fun u65 => (testO (op2 inV2 (op2 getV (some (U.lst (txs (r.1 :: r.2)))) (some (U.int 0))) (some u65)))) [.dic (strDic (orgL pre))] = some (false, [.dic (strDic (orgL pre))]) := by
      rw [g0, e1]
      rw [orS_s (x := false) (us1 := [.dic (strDic (orgL pre))]) rfl, if_neg Bool.false_ne_true]
      exact lockT_s rfl rfl (by rw [e2]; rfl)
    rw [ifS_s c1, if_neg Bool.false_ne_true]
    have c2 : orS (andS (lockT 0 fun u80 => (testO (op1 (empV false) (some u80)))) (pureS (testO (op2 gtV (callO lenV (consO (some (U.lst (txs (r.1 :: r.2)))) (some []))) (some (U.int 1)))))) (andS (lockT 0 fun u83 => (testO (op1 (empV true) (some u83)))) (notS (lockT 0 fun u86 => (testO (callO (a2 m_are_sources) (consO (slO (some (U.lst (txs (r.1 :: r.2)))) (ptO (some (U.int 1))) (some none)) (consO (some u86) (some [])))))))) [.dic (strDic (orgL pre))] = some (false, [.dic (strDic (orgL pre))]) := by
      have q1 : lockT 0 (fun u80 => (testO (op1 (empV false) (some u80)))) [.dic (strDic (orgL pre))] = some ((strDic (orgL pre)).isEmpty, [.dic (strDic (orgL pre))]) := lockT_s rfl rfl rfl
      have q2 : lockT 0 (fun u80 => (testO (op1 (empV true) (some u80)))) [.dic (strDic (orgL pre))] = some (!(strDic (orgL pre)).isEmpty, [.dic (strDic (orgL pre))]) := lockT_s rfl rfl rfl
      have hem : (strDic (orgL pre)).isEmpty = pre.isEmpty := by cases pre <;> rfl
      rw [hem] at q1 q2
      by_cases hp : pre = []
      · have hz := nx.first hp
        have l0 : testO (op2 gtV (callO lenV (consO (some (U.lst (txs (r.1 :: r.2)))) (some []))) (some (U.int 1))) = some false := by
          rw [hz]; rfl
        have hpe : pre.isEmpty = true := by rw [hp]; rfl
        rw [hpe] at q1 q2
        rw [orS_s (x := false) (us1 := [.dic (strDic (orgL pre))]) (by rw [andS_s q1, if_pos rfl, l0]; rfl), if_neg Bool.false_ne_true, andS_s q2]
        rfl
      · have hpe : pre.isEmpty = false := by cases pre with
          | nil => exact absurd rfl hp
          | cons _ _ => rfl
        rw [hpe] at q1 q2
        obtain ⟨hne, h2⟩ := nx.later hp
        have q3 : lockT 0 (fun u86 => (testO (callO (a2 m_are_sources) (consO (slO (some (U.lst (txs (r.1 :: r.2)))) (ptO (some (U.int 1))) (some none)) (consO (some u86) (some [])))))) [.dic (strDic (orgL pre))] = some (true, [.dic (strDic (orgL pre))]) := by
          refine lockT_s rfl rfl ?_
          rw [cu]
          show testO (m_are_sources (.lst (txs r.2)) (.dic (strDic (orgL pre)))) = _
          rw [are_sources_ok hne h2 nx.nd fun s hs => (nx.src s hs).1]
          rfl
        rw [orS_s (x := false) (us1 := [.dic (strDic (orgL pre))]) (by rw [andS_s q1]; rfl), if_neg Bool.false_ne_true, andS_s q2, if_pos (show (!false) = true from rfl)]
        unfold notS
        rw [bindS_s q3]
        rfl
    rw [ifS_s c2, if_neg Bool.false_ne_true, cu, g0]
    have c3 : callO (Dn.c1 tupleV) (consO (some (U.lst (txs r.2))) (some [])) = some (.tup (txs r.2)) := rfl
    rw [c3, bindS_pure, bindS_pure]
    have hul : (strDic (orgL pre)).length < lim := by
      have := nx.size
      simp [strDic, orgL]; omega
    have c4 : putS 0 (.str r.1) (.tup (txs r.2)) [.dic (strDic (orgL pre))] = some (.non, [.dic (strDic (orgL (pre ++ [r])))]) := by
      show ((U.str r.1).key.bind fun kk => if (strDic (orgL pre)).length < lim then some (U.non, [U.dic (strDic (orgL pre))].set 0 (.dic (putU (strDic (orgL pre)) kk (.tup (txs r.2))))) else none) = _
      simp only [U.key, Option.bind_some, if_pos hul, put_org nx.new]
      rfl
    rw [bindS_s c4]
    rfl
theorem lc2L_app {p : U → Option Bool} {ys : U → Option (List U)} {p1 : U → U → Option Bool} {f : U → U → Option U} {α : Type} {g : α → U} {h : α → List U} : ∀ (l : List α), (∀ a ∈ l, p (g a) = some true) → (∀ a ∈ l, ∃ zs, ys (g a) = some zs ∧ zs.length ≤ lim ∧ lcL (p1 (g a)) (f (g a)) zs = some (h a)) → lc2L p ys p1 f (l.map g) = some (l.flatMap h)
  | [], _, _ => rfl
  | a :: l, hp, hf => by
    have ih := lc2L_app (p := p) (ys := ys) (p1 := p1) (f := f) (g := g) (h := h) l (fun x hx => hp x (List.mem_cons_of_mem _ hx)) (fun x hx => hf x (List.mem_cons_of_mem _ hx))
    obtain ⟨zs, e1, e2, e3⟩ := hf a (List.mem_cons_self ..)
    have := hp a (List.mem_cons_self ..)
    simp [lc2L, this, e1, e2, e3, ih]
theorem lcL_id {ss : List U} : lcL (fun _ => some true) (fun u => some u) ss = some ss := by
  induction ss with
  | nil => rfl
  | cons s ss ih => simp [lcL, ih]
theorem rowsU_len {rs : List Row} : (rowsU rs).length = rs.length := by simp [rowsU]
theorem srcs_len {rs : List Row} (h2 : ∀ r ∈ rs, r.2.length ≤ 2) : (srcs rs).length ≤ 2 * rs.length := by
  induction rs with
  | nil => simp [srcs]
  | cons r rs ih =>
    have := ih fun x hx => h2 x (List.mem_cons_of_mem _ hx)
    have h1 := h2 r (List.mem_cons_self ..)
    simp only [srcs, List.flatMap_cons, List.length_append, List.length_cons] at this ⊢
    omega
theorem web_in_ok {rs : List Row} (h : Web rs) (hl : rs.length ≤ 40) : m_web_in (.str (textT rs)) = some (.tup (rowsU rs)) := by
  unfold m_web_in runS m_web_inS
  have hlim : lim = 100000 := rfl
  have t0 : notO (testO (isO isStrB (some (U.str (textT rs))))) = some false := rfl
  have e0 : op2 splitV (some (U.str (textT rs))) (some (U.str "; ")) = some (.lst (txs (rs.map partT))) := split_text h hl
  rw [t0, ifS_p, if_neg Bool.false_ne_true, bindS_pure, e0]
  unfold addS
  rw [withK_s, show iterO U.iter (some (U.lst (txs (rs.map partT)))) = some (txs (rs.map partT)) from rfl, bindS_pure]
  rw [show ([] ++ [U.dic []] : List U) = [U.dic (strDic (orgL []))] from rfl, web_l1 h hl rs [] rfl]
  have e1 : lockO 0 (fun u118 => (compOO (fun u124 => (some true)) (fun u124 => (iterO U.iter (some u124))) (fun u124 u127 => (some true)) (fun u124 u127 => (some u127)) (iterO U.vals (some u118)))) [.dic (strDic (orgL rs))] = some (.lst (txs (srcs rs)), [.dic (strDic (orgL rs))]) := by
    refine lockO_s rfl rfl ?_ (by simp [U.pl, txs_pl])
    have ev : iterO U.vals (some (U.dic (strDic (orgL rs)))) = some (rs.map fun r => U.tup (txs r.2)) := by
      show some ((strDic (orgL rs)).map fun kv => kv.2) = _
      simp [strDic, orgL]
    rw [ev]
    have := lc2L_app (p := fun u124 => (some true)) (ys := fun u124 => (iterO U.iter (some u124))) (p1 := fun u124 u127 => (some true)) (f := fun u124 u127 => (some u127)) (g := fun r : Row => U.tup (txs r.2)) (h := fun r => txs r.2) rs (fun _ _ => rfl) (fun r hr => ⟨txs r.2, rfl, by rw [txs_length]; have := h.row_two r hr; omega, lcL_id⟩)
    show (lc2L _ _ _ _ _).bind _ = _
    rw [this, Option.bind_some]
    have e2 : (rs.flatMap fun r => txs r.2) = txs (srcs rs) := by simp [txs, srcs, List.map_flatMap]
    rw [e2, if_pos (by rw [txs_length]; have := srcs_len h.row_two; omega)]
  rw [bindS_s e1]
  have e2 : opS gtV (lockO 0 fun u139 => (callO lenV (consO (some u139) (some [])))) (pureS (some (U.int 40))) [.dic (strDic (orgL rs))] = some (.bl (decide ((40 : Int) < rs.length)), [.dic (strDic (orgL rs))]) := by
    refine opS_s (a := .int rs.length) (lockO_s rfl rfl ?_ rfl) rfl gtV_i
    rw [len_dic]
    simp [strDic, orgL]
  have e3 : lockO 0 (fun u142 => (compO (fun u148 => (some true)) (fun u148 => (op2 gtV (op2 countV (some (U.lst (txs (srcs rs)))) (some u148)) (some (U.int 2)))) (iterO U.iter (some u142)))) [.dic (strDic (orgL rs))] = some (.lst ((names rs).map fun _ => U.bl false), [.dic (strDic (orgL rs))]) := by
    have hpl : (U.lst ((names rs).map fun _ => U.bl false)).pl = true := by
      show U.pls _ = true
      generalize names rs = ns
      induction ns with
      | nil => rfl
      | cons n ns ih => simp [U.pls, U.pl, ih]
    refine lockO_s rfl rfl ?_ hpl
    have hk : iterO U.iter (some (U.dic (strDic (orgL rs)))) = some ((names rs).map U.str) := by
      show some ((strDic (orgL rs)).map fun kv => kU kv.1) = _
      simp [strDic, orgL, names, kU]
    rw [hk, compO_s]
    refine lcO_map (g := U.str) (h := fun _ => U.bl false) (names rs) (by simp [names]; omega) fun n hn => ?_
    have ec : op2 countV (some (U.lst (txs (srcs rs)))) (some (U.str n)) = some (.int (cnt rs n)) := by
      show (strsU (txs (srcs rs))).map (fun ss => U.int (ss.count n : Nat)) = _
      rw [strsU_txs]; rfl
    rw [ec, op2_s, gtV_i]
    have := h.two n
    have : decide ((2 : Int) < cnt rs n) = false := by simp; omega
    rw [this]
  have e4 : orS (testS (opS gtV (lockO 0 fun u139 => (callO lenV (consO (some u139) (some [])))) (pureS (some (U.int 40))))) (testS (callS (c1 anyV) (consS (lockO 0 fun u142 => (compO (fun u148 => (some true)) (fun u148 => (op2 gtV (op2 countV (some (U.lst (txs (srcs rs)))) (some u148)) (some (U.int 2)))) (iterO U.iter (some u142)))) (pureS (some []))))) [.dic (strDic (orgL rs))] = some (false, [.dic (strDic (orgL rs))]) := by
    have hd : decide ((40 : Int) < rs.length) = false := by simp; omega
    rw [hd] at e2
    rw [orS_s (testS_s' e2), if_neg Bool.false_ne_true]
    refine testS_s' ?_
    rw [callS_s (consS_s e3 rfl), any_map (p := fun _ => false)]
    simp
  rw [ifS_s e4, if_neg Bool.false_ne_true]
  have e5 : lockO 0 (fun u163 => (op1 itemsV (some u163))) [.dic (strDic (orgL rs))] = some (.tup (rowsU rs), [.dic (strDic (orgL rs))]) := by
    refine lockO_s rfl rfl ?_ (by simp [U.pl, rows_pl])
    show some (U.tup ((strDic (orgL rs)).map fun kv => U.tup [kU kv.1, kv.2])) = _
    simp [strDic, orgL, rowsU, rowU, kU, Function.comp_def]
  rw [e5]
  rfl
/-! ### the lines -/
abbrev Pr := Str × Str
def pairU (p : Pr) : U := .tup [.str p.1, .str p.2]
def linesT (rs : List Row) : List Pr := rs.flatMap fun r => r.2.map fun s => (s, r.1)
theorem linesT_fst {rs : List Row} : (linesT rs).map (·.1) = srcs rs := by
  simp only [linesT, srcs, List.map_flatMap, List.map_map]
  congr 1
  funext r
  simp [Function.comp_def]
theorem linesT_len {rs : List Row} (h2 : ∀ r ∈ rs, r.2.length ≤ 2) : (linesT rs).length ≤ 2 * rs.length := by
  induction rs with
  | nil => simp [linesT]
  | cons r rs ih =>
    have := ih fun x hx => h2 x (List.mem_cons_of_mem _ hx)
    have h1 := h2 r (List.mem_cons_self ..)
    simp only [linesT, List.flatMap_cons, List.length_append, List.length_map, List.length_cons] at this ⊢
    omega
theorem pairU_inj {a b : Pr} : pairU a = pairU b → a = b := fun h => by
  obtain ⟨a1, a2⟩ := a
  obtain ⟨b1, b2⟩ := b
  simp [pairU] at h
  exact Prod.ext h.1 h.2
theorem eq_pair {n : Nat} {a b : Pr} : eqO (n + 2) (pairU a) (pairU b) = some (decide (a = b)) := by
  show (allO (eqO (n + 1)) [.str a.1, .str a.2] [.str b.1, .str b.2]).map (fun c => c && true) = _
  simp only [allO, eqO_ss, Option.bind_some, Option.map_some, Bool.and_true]
  congr 1
  rw [Bool.eq_iff_iff]
  simp [Prod.ext_iff]
theorem inO_pairs {n : Nat} {p : Pr} : ∀ {ls : List Pr}, inO (n + 2) (pairU p) (ls.map pairU) = some (decide (p ∈ ls))
  | [] => rfl
  | x :: ls => by
    show (eqO (n + 2) (pairU x) (pairU p)).bind (fun a => (inO (n + 2) (pairU p) (ls.map pairU)).map fun b => a || b) = _
    rw [eq_pair, inO_pairs, Option.bind_some, Option.map_some]
    congr 1
    by_cases e : x = p
    · subst e; simp
    · have e2 : ¬ p = x := fun z => e z.symm
      simp [e, e2]
theorem notIn_pairs {p : Pr} {ls : List Pr} : notInV2 (pairU p) (.frl (ls.map pairU)) = some (.bl (!decide (p ∈ ls))) := by
  show (inO dep (pairU p) (ls.map pairU)).map (fun b => U.bl (!b)) = _
  rw [show dep = 38 + 2 from rfl, inO_pairs]
  rfl
/-! ### rows of lines -/
def besB (a b : Pr) : Bool := decide (a ≠ b) && (decide (a.1 = b.1) || decide (a.2 = b.2))
theorem beside_ok {a b : Pr} : m_are_beside (pairU a) (pairU b) = some (.bl (besB a b)) := by
  unfold m_are_beside
  have e1 : op2 neV2 (some (pairU a)) (some (pairU b)) = some (.bl (!decide (a = b))) := by
    show (eqO dep (pairU a) (pairU b)).map (fun c => U.bl (!c)) = _
    rw [show dep = 38 + 2 from rfl, eq_pair]
    rfl
  have e2 : op2 eqV2 (op2 getV (some (pairU a)) (some (U.int 0))) (op2 getV (some (pairU b)) (some (U.int 0))) = some (.bl (a.1 == b.1)) := rfl
  have e3 : op2 eqV2 (op2 getV (some (pairU a)) (some (U.int 1))) (op2 getV (some (pairU b)) (some (U.int 1))) = some (.bl (a.2 == b.2)) := rfl
  rw [e1, e2, e3, orV_s, andV_s]
  congr 2
  unfold besB
  rw [Bool.eq_iff_iff]
  simp
def laterL (ls f : List Pr) (now : Pr) : List Pr := ls.filter fun l => besB l now && !decide (l ∈ f)
def walkL (ls : List Pr) : Nat → List Pr → Pr → List Pr
  | 0, f, _ => f
  | n + 1, f, now => match laterL ls f now with
    | [] => f
    | x :: _ => walkL ls n (f ++ [x]) x
def leftN (ls f : List Pr) : Nat := (ls.filter fun l => !decide (l ∈ f)).length
theorem left_snoc {ls f : List Pr} {x : Pr} (h : x ∈ ls) (hx : x ∉ f) : leftN ls (f ++ [x]) < leftN ls f := by
  unfold leftN
  have e : (ls.filter fun l => !decide (l ∈ f ++ [x])) = (ls.filter fun l => !decide (l ∈ f)).filter fun l => !decide (l = x) := by
    rw [List.filter_filter]
    apply List.filter_congr
    intro l _
    rw [Bool.eq_iff_iff]
    simp [and_comm]
  rw [e]
  refine List.length_filter_lt_length_iff_exists.mpr ⟨x, List.mem_filter.mpr ⟨h, by simpa using hx⟩, by simp⟩
theorem later_mem {ls f : List Pr} {now x : Pr} (h : x ∈ laterL ls f now) : x ∈ ls ∧ besB x now = true ∧ x ∉ f := by
  have := List.mem_filter.mp h
  simpa using this
theorem later_ok {ls f : List Pr} {now : Pr} (hl : ls.length ≤ lim) (hf : U.pls (f.map pairU) = true) : lockO 0 (fun u56 => (compO (fun u62 => (andO (testO (callO (a2 m_are_beside) (consO (some u62) (consO (some (pairU now)) (some []))))) (testO (op2 notInV2 (some u62) (some u56))))) (fun u62 => (some u62)) (iterO U.iter (some (U.tpd (ls.map pairU)))))) [.frl (f.map pairU)] = some (.lst ((laterL ls f now).map pairU), [.frl (f.map pairU)]) := by
  have hp : ∀ l : List Pr, U.pls (l.map pairU) = true := fun l => by
    induction l with
    | nil => rfl
    | cons x l ih => simp [U.pls, U.pl, pairU, ih]
  refine lockO_s rfl rfl ?_ (hp _)
  exact lcO_mf (p := fun u62 => (andO (testO (callO (a2 m_are_beside) (consO (some u62) (consO (some (pairU now)) (some []))))) (testO (op2 notInV2 (some u62) (some (U.frl (f.map pairU))))))) (f := fun u62 => (some u62)) (g := pairU) (q := fun l => besB l now && !decide (l ∈ f)) (h := pairU) ls hl (fun l _ => by
    show andO (testO (m_are_beside (pairU l) (pairU now))) (testO (notInV2 (pairU l) (.frl (f.map pairU)))) = _
    rw [beside_ok, notIn_pairs, testO_s, testO_s, andO_s]) (fun l _ _ => rfl)
theorem pairs_pl : ∀ l : List Pr, U.pls (l.map pairU) = true
  | [] => rfl
  | x :: l => by simp [U.pls, U.pl, pairU, pairs_pl l]
theorem walk_stop {ls f : List Pr} {k : U → SM U} {m : Nat} (hf : f.length ≤ 2000) : bindS (pureS (ifO (testO (op2 neV2 (some (U.lst (([] : List Pr).map pairU))) (lstO (some [])))) (op2 getV (some (U.lst (([] : List Pr).map pairU))) (some (U.int 0))) (some U.non))) (fun x74 => bindS (bindS (pureS (slO (some (U.lst (([] : List Pr).map pairU))) (some none) (ptO (some (U.int 1))))) fun y => extS 0 y) fun x => m_walk_from_w1 (U.tpd (ls.map pairU)) k (m + 1) x74) [U.frl (f.map pairU)] = k .non [U.frl (f.map pairU)] := by
  have hlim : lim = 100000 := rfl
  have c1 : ifO (testO (op2 neV2 (some (U.lst (([] : List Pr).map pairU))) (lstO (some [])))) (op2 getV (some (U.lst (([] : List Pr).map pairU))) (some (U.int 0))) (some U.non) = some .non := rfl
  have c2 : slO (some (U.lst (([] : List Pr).map pairU))) (some none) (ptO (some (U.int 1))) = some (.lst []) := rfl
  have c3 : extS 0 (.lst []) [.frl (f.map pairU)] = some (.non, [.frl (f.map pairU)]) := by
    show (if (f.map pairU).length + ([] : List U).length ≤ lim then some (U.non, [U.frl (f.map pairU)].set 0 (.frl (f.map pairU ++ []))) else none) = _
    rw [if_pos (by simp; omega)]
    simp
  rw [c1, bindS_pure, c2, bindS_pure, bindS_s c3]
  rfl
theorem walk_w1 {ls : List Pr} {k : U → SM U} (hl : ls.length ≤ 1000) : ∀ (n m : Nat) (f : List Pr) (now : Pr), leftN ls f ≤ n → n + 2 ≤ m → f.length + n ≤ 2000 →
    m_walk_from_w1 (.tpd (ls.map pairU)) k m (pairU now) [.frl (f.map pairU)] = k .non [.frl ((walkL ls n f now).map pairU)] := by
  have hlim : lim = 100000 := rfl
  intro n
  induction n with
  | zero =>
    intro m f now h0 hm hf
    obtain ⟨m, rfl⟩ : ∃ m', m = m' + 2 := ⟨m - 2, by omega⟩
    have hz : laterL ls f now = [] := by
      cases e : laterL ls f now with
      | nil => rfl
      | cons x r =>
        have := later_mem (e ▸ List.mem_cons_self .. : x ∈ laterL ls f now)
        have := left_snoc this.1 this.2.2
        omega
    have t1 : testO (op2 isNotV (some (pairU now)) (some U.non)) = some true := rfl
    show ifS (pureS (testO (op2 isNotV (some (pairU now)) (some U.non)))) _ _ _ = _
    rw [t1, ifS_p, if_pos rfl, bindS_s (later_ok (by omega) (pairs_pl f)), hz]
    exact walk_stop (by omega)
  | succ n ih =>
    intro m f now h0 hm hf
    obtain ⟨m, rfl⟩ : ∃ m', m = m' + 2 := ⟨m - 2, by omega⟩
    have t1 : testO (op2 isNotV (some (pairU now)) (some U.non)) = some true := rfl
    show ifS (pureS (testO (op2 isNotV (some (pairU now)) (some U.non)))) _ _ _ = _
    rw [t1, ifS_p, if_pos rfl, bindS_s (later_ok (by omega) (pairs_pl f))]
    cases e : laterL ls f now with
    | nil =>
      have : walkL ls (n + 1) f now = f := by
        show (match laterL ls f now with | [] => f | x :: _ => walkL ls n (f ++ [x]) x) = f
        rw [e]
      rw [this]
      exact walk_stop (by omega)
    | cons x r =>
      have hx := later_mem (e ▸ List.mem_cons_self .. : x ∈ laterL ls f now)
      have : walkL ls (n + 1) f now = walkL ls n (f ++ [x]) x := by
        show (match laterL ls f now with | [] => f | x :: _ => walkL ls n (f ++ [x]) x) = _
        rw [e]
      rw [this, ← ih (m + 1) (f ++ [x]) x (by have := left_snoc hx.1 hx.2.2; omega) (by omega) (by rw [List.length_append, List.length_singleton]; omega)]
      have c1 : ifO (testO (op2 neV2 (some (U.lst ((x :: r).map pairU))) (lstO (some [])))) (op2 getV (some (U.lst ((x :: r).map pairU))) (some (U.int 0))) (some U.non) = some (pairU x) := by
        have q : testO (op2 neV2 (some (U.lst ((x :: r).map pairU))) (lstO (some []))) = some true := rfl
        rw [q, ifO_t]
        exact get0n
      have c2 : slO (some (U.lst ((x :: r).map pairU))) (some none) (ptO (some (U.int 1))) = some (.lst [pairU x]) := by
        show some (U.lst (cutU _ _ _)) = _
        simp [cutU, HT.sIx]
      rw [c1, bindS_pure, c2, bindS_pure]
      have c3 : extS 0 (.lst [pairU x]) [.frl (f.map pairU)] = some (.non, [.frl ((f ++ [x]).map pairU)]) := by
        show (if (f.map pairU).length + [pairU x].length ≤ lim then some (U.non, [U.frl (f.map pairU)].set 0 (.frl (f.map pairU ++ [pairU x]))) else none) = _
        rw [if_pos (by simp; omega)]
        simp
      rw [bindS_s c3]
def walkF (ls : List Pr) (s : Pr) : List Pr := walkL ls ls.length [s] s
theorem left_le {ls f : List Pr} : leftN ls f ≤ ls.length := List.length_filter_le ..
theorem walk_ok {ls : List Pr} {s : Pr} (hl : ls.length ≤ 200) : m_walk_from (.tpd (ls.map pairU)) (pairU s) = some (.lst ((walkF ls s).map pairU)) := by
  unfold m_walk_from runS m_walk_fromS
  have e := walk_w1 (k := fun x40 => (bindS (takeS 0) fun x91 => (pureS (some x91)))) (ls := ls) (by omega) ls.length 300 [s] s left_le (by omega) (by simp; omega)
  show ((m_walk_from_w1 (.tpd (ls.map pairU)) _ 300 (pairU s) [.frl ([s].map pairU)]).map Prod.fst) = _
  rw [e]
  rfl
/-- what a walk keeps -/
theorem walkL_sub {ls : List Pr} : ∀ (n : Nat) (f : List Pr) (now : Pr), (∀ x ∈ f, x ∈ ls) → ∀ x ∈ walkL ls n f now, x ∈ ls
  | 0, f, now, h => h
  | n + 1, f, now, h => by
    unfold walkL
    split
    · exact h
    · rename_i x r e
      refine walkL_sub n (f ++ [x]) x fun y hy => ?_
      rcases List.mem_append.mp hy with hy | hy
      · exact h y hy
      · simp at hy; subst hy
        exact (later_mem (e ▸ List.mem_cons_self ..)).1
theorem walkL_pre {ls : List Pr} : ∀ (n : Nat) (f : List Pr) (now : Pr), ∃ g, walkL ls n f now = f ++ g
  | 0, f, now => ⟨[], by simp [walkL]⟩
  | n + 1, f, now => by
    unfold walkL
    split
    · exact ⟨[], by simp⟩
    · rename_i x r e
      obtain ⟨g, hg⟩ := walkL_pre (ls := ls) n (f ++ [x]) x
      exact ⟨x :: g, by rw [hg]; simp⟩
theorem walkF_pre {ls : List Pr} {s : Pr} : ∃ g, walkF ls s = s :: g := by
  obtain ⟨g, h⟩ := walkL_pre (ls := ls) ls.length [s] s
  exact ⟨g, h⟩
theorem walkF_sub {ls : List Pr} {s : Pr} (h : s ∈ ls) : ∀ x ∈ walkF ls s, x ∈ ls := walkL_sub _ _ _ fun x hx => by simp at hx; subst hx; exact h
theorem walkF_ne {ls : List Pr} {s : Pr} : walkF ls s ≠ [] := by obtain ⟨g, h⟩ := walkF_pre (ls := ls) (s := s); rw [h]; simp

end K06
set_option Elab.async false
set_option linter.all false
set_option maxRecDepth 100000
set_option maxHeartbeats 2000000
namespace K06
open PySem L2 Dn
theorem last_at {l : List Pr} (h : l ≠ []) : op2 getV (some (U.lst (l.map pairU))) (op1 negV (some (U.int 1))) = some (pairU (l.getLast h)) := by
  show atI (l.map pairU) (-1) = _
  have e : l.map pairU = l.dropLast.map pairU ++ [pairU (l.getLast h)] := by
    have := List.dropLast_concat_getLast h
    rw [show [pairU (l.getLast h)] = [l.getLast h].map pairU from rfl, ← List.map_append, this]
  rw [e]
  exact atI_neg1
theorem first_at {l : List Pr} (h : l ≠ []) : op2 getV (some (U.lst (l.map pairU))) (some (U.int 0)) = some (pairU (l.head h)) := by
  cases l with
  | nil => exact absurd rfl h
  | cons x l => exact get0n
def closedB (l : List Pr) (h : l ≠ []) : Bool := decide (2 < l.length) && besB (l.head h) (l.getLast h)
theorem closed_ok {l : List Pr} (h : l ≠ []) : m_is_closed (.lst (l.map pairU)) = some (.bl (closedB l h)) := by
  unfold m_is_closed
  rw [first_at h, last_at h]
  have e1 : op2 gtV (callO lenV (consO (some (U.lst (l.map pairU))) (some []))) (some (U.int 2)) = some (.bl (decide (2 < l.length))) := by
    show some (U.bl (decide ((2 : Int) < ((l.map pairU).length : Nat)))) = _
    rw [List.length_map]
    congr 2
    rw [decide_eq_decide]
    omega
  have e2 : callO (a2 m_are_beside) (consO (some (pairU (l.head h))) (consO (some (pairU (l.getLast h))) (some []))) = some (.bl (besB (l.head h) (l.getLast h))) := beside_ok
  rw [e1, e2, andV_s]
  rfl
theorem hit_pair {a b : Pr} : hitU (pairU a) (pairU b) = decide (b = a) := by
  unfold hitU
  rw [show dep = 38 + 2 from rfl, eq_pair]
  by_cases h : b = a <;> simp [h]
theorem findIdx_map' {a : Pr} : ∀ ls : List Pr, (ls.map pairU).findIdx (hitU (pairU a)) = ls.findIdx fun b => decide (b = a)
  | [] => rfl
  | x :: ls => by
    rw [List.map_cons, List.findIdx_cons, List.findIdx_cons, hit_pair, findIdx_map' ls]
def posL (ls : List Pr) (a : Pr) : Nat := ls.findIdx fun b => decide (b = a)
theorem idx_ok {ls : List Pr} {a : Pr} (h : a ∈ ls) : tidxV (.tpd (ls.map pairU)) (pairU a) = some (.int (posL ls a : Nat)) := by
  show (inO dep (pairU a) (ls.map pairU)).bind (fun b => if b = true then some (U.int ((ls.map pairU).findIdx (hitU (pairU a)) : Nat)) else none) = _
  rw [show dep = 38 + 2 from rfl, inO_pairs, decide_eq_true h, Option.bind_some, if_pos rfl, findIdx_map']
  rfl
def rowF (ls : List Pr) (s : Pr) : List Pr :=
  let row := walkF ls s
  if closedB row walkF_ne = true then row
  else
    let row2 := walkF ls (row.getLast walkF_ne)
    if posL ls (row2.head walkF_ne) ≤ posL ls (row2.getLast walkF_ne) then row2 else row2.reverse
theorem row_ok {ls : List Pr} {s : Pr} (hl : ls.length ≤ 200) (hs : s ∈ ls) : m_row_of (.tpd (ls.map pairU)) (pairU s) = some (.tup ((rowF ls s).map pairU)) := by
  unfold m_row_of
  have e1 : callO (a2 m_walk_from) (consO (some (U.tpd (ls.map pairU))) (consO (some (pairU s)) (some []))) = some (.lst ((walkF ls s).map pairU)) := walk_ok hl
  have e2 : callO (a1 m_is_closed) (consO (some (U.lst ((walkF ls s).map pairU))) (some [])) = some (.bl (closedB (walkF ls s) walkF_ne)) := closed_ok walkF_ne
  rw [e1, Option.bind_some, e2, testO_s, ifO_s]
  by_cases hc : closedB (walkF ls s) walkF_ne = true
  · rw [if_pos hc]
    have : rowF ls s = walkF ls s := by unfold rowF; simp only; rw [if_pos hc]
    rw [this]
    rfl
  · rw [if_neg hc, last_at walkF_ne]
    have hlast : (walkF ls s).getLast walkF_ne ∈ ls := walkF_sub hs _ (List.getLast_mem walkF_ne)
    generalize hz : (walkF ls s).getLast walkF_ne = z at hlast
    have e3 : callO (a2 m_walk_from) (consO (some (U.tpd (ls.map pairU))) (consO (some (pairU z)) (some []))) = some (.lst ((walkF ls z).map pairU)) := walk_ok hl
    rw [e3, Option.bind_some, first_at walkF_ne, last_at walkF_ne]
    have i1 := idx_ok (walkF_sub hlast _ (List.head_mem (walkF_ne (ls := ls) (s := z))))
    have i2 := idx_ok (walkF_sub hlast _ (List.getLast_mem (walkF_ne (ls := ls) (s := z))))
    rw [op2_s, op2_s, i1, i2, op2_s, leV_i, testO_s, ifO_s]
    have hrow : rowF ls s = if posL ls ((walkF ls z).head walkF_ne) ≤ posL ls ((walkF ls z).getLast walkF_ne) then walkF ls z else (walkF ls z).reverse := by
      subst hz
      unfold rowF
      simp only
      rw [if_neg hc]
    rw [hrow]
    by_cases hp : posL ls ((walkF ls z).head walkF_ne) ≤ posL ls ((walkF ls z).getLast walkF_ne)
    · rw [if_pos hp, if_pos (by simpa using hp)]
      rfl
    · rw [if_neg hp, if_neg (by simpa using hp)]
      show callO (c1 tupleV) (consO (some (U.lst ((walkF ls z).map pairU).reverse)) (some [])) = _
      rw [← List.map_reverse]
      rfl
theorem rowF_sub {ls : List Pr} {s : Pr} (hs : s ∈ ls) : ∀ x ∈ rowF ls s, x ∈ ls := by
  have h1 := walkF_sub hs
  have h2 := walkF_sub (h1 _ (List.getLast_mem (walkF_ne (ls := ls) (s := s))))
  unfold rowF
  simp only
  split
  · exact h1
  · split
    · exact h2
    · intro x hx
      exact h2 x (List.mem_reverse.mp hx)
/-! ### all rows -/
def kyP (p : Pr) : List Key := [.inr p.1, .inr p.2]
theorem kyP_inj {a b : Pr} (h : kyP a = kyP b) : a = b := by
  simp [kyP] at h
  exact Prod.ext h.1 h.2
def metD (ms : List Pr) : List (List Key × U) := ms.map fun p => (kyP p, .bl true)
theorem look_met {ms : List Pr} {p : Pr} : (lookK (metD ms) (kyP p)).isSome = decide (p ∈ ms) := by
  unfold lookK metD
  rw [Option.isSome_map, Bool.eq_iff_iff, List.find?_isSome, decide_eq_true_eq]
  constructor
  · rintro ⟨kv, hm, e⟩
    obtain ⟨q, hq, rfl⟩ := List.mem_map.mp hm
    exact kyP_inj (of_decide_eq_true e) ▸ hq
  · exact fun h => ⟨_, List.mem_map.mpr ⟨p, h, rfl⟩, decide_eq_true rfl⟩
theorem notIn_met {ms : List Pr} {p : Pr} : notInV2 (pairU p) (.dit (metD ms)) = some (.bl (!decide (p ∈ ms))) := by
  show ((some (lookK (metD ms) (kyP p))).map Option.isSome).map (fun b => U.bl (!b)) = _
  rw [Option.map_some, Option.map_some, look_met]
def putM (ms : List Pr) (p : Pr) : List Pr := if p ∈ ms then ms else ms ++ [p]
theorem put_met {ms : List Pr} {p : Pr} : putU (metD ms) (kyP p) (.bl true) = metD (putM ms p) := by
  unfold putU putM
  by_cases h : p ∈ ms
  · have : ((metD ms).any fun kv => decide (kv.1 = kyP p)) = true := by
      rw [List.any_eq_true]
      exact ⟨(kyP p, .bl true), List.mem_map.mpr ⟨p, h, rfl⟩, by simp⟩
    rw [if_pos this, if_pos h]
    unfold metD
    rw [List.map_map]
    apply List.map_congr_left
    intro q _
    simp only [Function.comp_apply]
    split <;> rfl
  · have : ¬ ((metD ms).any fun kv => decide (kv.1 = kyP p)) = true := by
      rw [List.any_eq_true]
      rintro ⟨kv, hm, e⟩
      obtain ⟨q, hq, rfl⟩ := List.mem_map.mp hm
      simp at e
      exact h (kyP_inj e ▸ hq)
    rw [if_neg this, if_neg h]
    simp [metD]
def putsM (ms : List Pr) : List Pr → List Pr
  | [] => ms
  | p :: ps => putsM (putM ms p) ps
theorem putM_len {ms : List Pr} {p : Pr} {ls : List Pr} (nd : ms.Nodup) (h : ∀ x ∈ ms, x ∈ ls) (hp : p ∈ ls) : (putM ms p).Nodup ∧ ∀ x ∈ putM ms p, x ∈ ls := by
  unfold putM
  split
  · exact ⟨nd, h⟩
  · rename_i hn
    refine ⟨?_, fun x hx => ?_⟩
    · rw [List.nodup_append]
      exact ⟨nd, by simp, fun a ha b hb e => by simp at hb; subst hb; subst e; exact hn ha⟩
    · rcases List.mem_append.mp hx with hx | hx
      · exact h x hx
      · simp at hx; subst hx; exact hp
theorem putsM_facts {ls : List Pr} : ∀ (ps ms : List Pr), ms.Nodup → (∀ x ∈ ms, x ∈ ls) → (∀ x ∈ ps, x ∈ ls) → (putsM ms ps).Nodup ∧ (∀ x ∈ putsM ms ps, x ∈ ls)
  | [], ms, nd, h, _ => ⟨nd, h⟩
  | p :: ps, ms, nd, h, hp => by
    obtain ⟨a, b⟩ := putM_len nd h (hp p (List.mem_cons_self ..))
    exact putsM_facts ps (putM ms p) a b fun x hx => hp x (List.mem_cons_of_mem _ hx)
theorem mem_putsM {x : Pr} : ∀ (ps ms : List Pr), x ∈ putsM ms ps ↔ x ∈ ms ∨ x ∈ ps
  | [], ms => by simp [putsM]
  | p :: ps, ms => by
    show x ∈ putsM (putM ms p) ps ↔ _
    rw [mem_putsM ps, List.mem_cons]
    unfold putM
    split
    · rename_i h
      constructor
      · rintro (h1 | h1)
        · exact .inl h1
        · exact .inr (.inr h1)
      · rintro (h1 | h1 | h1)
        · exact .inl h1
        · subst h1; exact .inl h
        · exact .inr h1
    · simp only [List.mem_append, List.mem_singleton]
      constructor
      · rintro ((h1 | h1) | h1)
        · exact .inl h1
        · exact .inr (.inl h1)
        · exact .inr (.inr h1)
      · rintro (h1 | h1 | h1)
        · exact .inl (.inl h1)
        · exact .inl (.inr h1)
        · exact .inr h1
theorem nodup_len {ms ls : List Pr} (nd : ms.Nodup) (h : ∀ x ∈ ms, x ∈ ls) : ms.length ≤ ls.length := nodup_le nd h
theorem rows_in_l2 {p0 : U} {k : SM U} {f : U} {ls : List Pr} (hl : ls.length ≤ 200) : ∀ (ps ms : List Pr), ms.Nodup → (∀ x ∈ ms, x ∈ ls) → (∀ x ∈ ps, x ∈ ls) → m_rows_in_l2 p0 k (ps.map pairU) [f, .dit (metD ms)] = k [f, .dit (metD (putsM ms ps))]
  | [], ms, _, _, _ => rfl
  | p :: ps, ms, nd, h, hp => by
    have hlen : (metD ms).length < lim := by
      have := nodup_len nd h
      have hlim : lim = 100000 := rfl
      simp [metD]; omega
    have c : putS 1 (pairU p) (.bl true) [f, .dit (metD ms)] = some (.non, [f, .dit (metD (putM ms p))]) := by
      show ((some (kyP p)).bind fun kk => if (metD ms).length < lim then some (U.non, [f, .dit (metD ms)].set 1 (.dit (putU (metD ms) kk (.bl true)))) else none) = _
      rw [Option.bind_some, if_pos hlen, put_met]
      rfl
    obtain ⟨a, b⟩ := putM_len nd h (hp p (List.mem_cons_self ..))
    have ih := rows_in_l2 (p0 := p0) (k := k) (f := f) hl ps (putM ms p) a b fun x hx => hp x (List.mem_cons_of_mem _ hx)
    show bindS (pureS (some (U.bl true))) (fun y119 => bindS (pureS (some (pairU p))) fun k120 => bindS (putS 1 k120 y119) fun _ => m_rows_in_l2 p0 k (ps.map pairU)) [f, .dit (metD ms)] = _
    rw [bindS_pure, bindS_pure, bindS_s c, ih]
    rfl
def rowsL (ls : List Pr) : List Pr → List (List Pr) → List Pr → List (List Pr)
  | [], f, _ => f
  | l :: r, f, ms => if l ∈ ms then rowsL ls r f ms else rowsL ls r (f ++ [rowF ls l]) (putsM ms (rowF ls l))
abbrev rowTs (f : List (List Pr)) : List U := f.map fun r => U.tup (r.map pairU)
theorem rowTs_pl {f : List (List Pr)} : U.pls (rowTs f) = true := by
  induction f with
  | nil => rfl
  | cons x f ih => simp [U.pls, U.pl, pairs_pl, ih]
theorem rows_in_l1 {ls : List Pr} {k : SM U} (hl : ls.length ≤ 200) : ∀ (suf : List Pr) (f : List (List Pr)) (ms : List Pr), (∀ x ∈ suf, x ∈ ls) → ms.Nodup → (∀ x ∈ ms, x ∈ ls) → f.length + suf.length ≤ 300 →
    ∃ ms', m_rows_in_l1 (.tpd (ls.map pairU)) k (suf.map pairU) [.frl (rowTs f), .dit (metD ms)] = k [.frl (rowTs (rowsL ls suf f ms)), .dit (metD ms')]
  | [], f, ms, _, _, _, _ => ⟨ms, rfl⟩
  | l :: suf, f, ms, hs, nd, hm, hf => by
    have hlim : lim = 100000 := rfl
    rw [List.length_cons] at hf
    have hll := hs l (List.mem_cons_self ..)
    have hs' : ∀ x ∈ suf, x ∈ ls := fun x hx => hs x (List.mem_cons_of_mem _ hx)
    have c1 : lockT 1 (fun u50 => (testO (op2 notInV2 (some (pairU l)) (some u50)))) [.frl (rowTs f), .dit (metD ms)] = some (!decide (l ∈ ms), [.frl (rowTs f), .dit (metD ms)]) := lockT_s rfl rfl (by rw [op2_s, notIn_met]; rfl)
    show ∃ ms', ifS (lockT 1 fun u50 => (testO (op2 notInV2 (some (pairU l)) (some u50)))) _ _ _ = _
    rw [ifS_s c1]
    by_cases h : l ∈ ms
    · obtain ⟨ms', e⟩ := rows_in_l1 (k := k) hl suf f ms hs' nd hm (by omega)
      refine ⟨ms', ?_⟩
      rw [if_neg (by simp [h])]
      have : rowsL ls (l :: suf) f ms = rowsL ls suf f ms := by
        show (if l ∈ ms then _ else _) = _
        rw [if_pos h]
      rw [this, ← e]
    · rw [if_pos (by simp [h])]
      have e1 : callO (a2 m_row_of) (consO (some (U.tpd (ls.map pairU))) (consO (some (pairU l)) (some []))) = some (.tup ((rowF ls l).map pairU)) := row_ok hl hll
      rw [e1, bindS_pure, bindS_pure]
      have c2 : appS 0 (.tup ((rowF ls l).map pairU)) [.frl (rowTs f), .dit (metD ms)] = some (.non, [.frl (rowTs (f ++ [rowF ls l])), .dit (metD ms)]) := by
        show (if (rowTs f).length < lim then some (U.non, [U.frl (rowTs f), .dit (metD ms)].set 0 (.frl (rowTs f ++ [.tup ((rowF ls l).map pairU)]))) else none) = _
        rw [if_pos (by simp; omega)]
        simp
      rw [bindS_s c2]
      rw [withK_s, show iterO U.iter (some (U.tup ((rowF ls l).map pairU))) = some ((rowF ls l).map pairU) from rfl, bindS_pure]
      rw [rows_in_l2 hl (rowF ls l) ms nd hm (rowF_sub hll)]
      obtain ⟨a, b⟩ := putsM_facts (rowF ls l) ms nd hm (rowF_sub hll)
      obtain ⟨ms', e⟩ := rows_in_l1 (k := k) hl suf (f ++ [rowF ls l]) (putsM ms (rowF ls l)) hs' a b (by rw [List.length_append, List.length_singleton]; omega)
      refine ⟨ms', ?_⟩
      have : rowsL ls (l :: suf) f ms = rowsL ls suf (f ++ [rowF ls l]) (putsM ms (rowF ls l)) := by
        show (if l ∈ ms then _ else _) = _
        rw [if_neg h]
      rw [this, ← e]
def zigs (ls : List Pr) : List (List Pr) := rowsL ls ls [] []
theorem rows_in_ok {ls : List Pr} (hl : ls.length ≤ 200) : m_rows_in (.tpd (ls.map pairU)) = some (.tup (rowTs (zigs ls))) := by
  unfold m_rows_in runS m_rows_inS
  obtain ⟨ms', e⟩ := rows_in_l1 (ls := ls) (k := bindS (takeS 0) fun x140 => (pureS (callO (c1 tupleV) (consO (some x140) (some []))))) hl ls [] [] (fun x hx => hx) .nil (fun x hx => nomatch hx) (by simp; omega)
  show ((m_rows_in_l1 (.tpd (ls.map pairU)) _ (ls.map pairU) [.frl (rowTs []), .dit (metD [])]).map Prod.fst) = _
  rw [e]
  rfl
/-! ### a web -/
def webFs (rs : List Row) : List (Str × U) := webF (.str (textT rs)) (.tup (rowsU rs)) (.tup (txs (names rs))) (.tpd ((linesT rs).map pairU)) (.tup (rowTs (zigs (linesT rs))))
def webU (rs : List Row) : U := .obj 0 (webFs rs)
theorem names_len {rs : List Row} : (names rs).length = rs.length := by simp [names]
theorem heads_of {rs : List Row} (hl : rs.length ≤ 40) : callO (c1 tupleV) (consO (compO2 (fun u4 u7 => (some true)) (fun u4 u7 => (some u4)) (iterO U.iter (some (U.tup (rowsU rs))))) (some [])) = some (.tup (txs (names rs))) := by
  have hlim : lim = 100000 := rfl
  have : compO2 (fun u4 u7 => (some true)) (fun u4 u7 => (some u4)) (iterO U.iter (some (U.tup (rowsU rs)))) = some (.lst (txs (names rs))) := by
    have := lcO_mf (p := fun u => (unp2 u).bind fun _ => some true) (f := fun u => (unp2 u).bind fun ab => some ab.1) (g := rowU) (q := fun _ => true) (h := fun r => U.str r.1) rs (by omega) (fun _ _ => rfl) (fun _ _ _ => rfl)
    rw [List.filter_eq_self.mpr (fun _ _ => rfl)] at this
    rw [show txs (names rs) = rs.map fun r => U.str r.1 by simp [txs, names]]
    exact this
  rw [this]
  rfl
theorem pairs_of {rs : List Row} (h : Web rs) (hl : rs.length ≤ 40) : callO (c1 tpdV) (consO (compOO (fun uu => (unp2 uu).bind fun ab => (fun u13 u16 => (some true)) ab.1 ab.2) (fun uu => (unp2 uu).bind fun ab => (fun u13 u16 => (iterO U.iter (some u16))) ab.1 ab.2) (fun uu u19 => (unp2 uu).bind fun ab => (fun u13 u16 => (some true)) ab.1 ab.2) (fun uu u19 => (unp2 uu).bind fun ab => (fun u13 u16 => (tupO (consO (some u19) (consO (some u13) (some []))))) ab.1 ab.2) (iterO U.iter (some (U.tup (rowsU rs))))) (some [])) = some (.tpd ((linesT rs).map pairU)) := by
  have hlim : lim = 100000 := rfl
  have e := lc2L_app (p := fun uu => (unp2 uu).bind fun ab => (fun u13 u16 => (some true)) ab.1 ab.2) (ys := fun uu => (unp2 uu).bind fun ab => (fun u13 u16 => (iterO U.iter (some u16))) ab.1 ab.2) (p1 := fun uu u19 => (unp2 uu).bind fun ab => (fun u13 u16 => (some true)) ab.1 ab.2) (f := fun uu u19 => (unp2 uu).bind fun ab => (fun u13 u16 => (tupO (consO (some u19) (consO (some u13) (some []))))) ab.1 ab.2) (g := rowU) (h := fun r => (r.2.map fun s => (s, r.1)).map pairU) rs (fun _ _ => rfl) (fun r hr => ⟨txs r.2, rfl, by rw [txs_length]; have := h.row_two r hr; omega, by
    have := lcL_mf (p := fun u19 => some true) (f := fun u19 => (tupO (consO (some u19) (consO (some (U.str r.1)) (some []))))) (g := U.str) (q := fun _ => true) (h := fun s => pairU (s, r.1)) r.2 (fun _ _ => rfl) (fun _ _ _ => rfl)
    rw [List.filter_eq_self.mpr (fun _ _ => rfl)] at this
    rw [List.map_map]
    exact this⟩)
  have e2 : compOO (fun uu => (unp2 uu).bind fun ab => (fun u13 u16 => (some true)) ab.1 ab.2) (fun uu => (unp2 uu).bind fun ab => (fun u13 u16 => (iterO U.iter (some u16))) ab.1 ab.2) (fun uu u19 => (unp2 uu).bind fun ab => (fun u13 u16 => (some true)) ab.1 ab.2) (fun uu u19 => (unp2 uu).bind fun ab => (fun u13 u16 => (tupO (consO (some u19) (consO (some u13) (some []))))) ab.1 ab.2) (iterO U.iter (some (U.tup (rowsU rs)))) = some (.lst ((linesT rs).map pairU)) := by
    show (lc2L _ _ _ _ (rs.map rowU)).bind _ = _
    rw [e, Option.bind_some]
    have e3 : (rs.flatMap fun r => (r.2.map fun s => (s, r.1)).map pairU) = (linesT rs).map pairU := by simp only [linesT, List.map_flatMap]
    rw [e3, if_pos (by rw [List.length_map]; have := linesT_len h.row_two; omega)]
  rw [e2]
  rfl
theorem init_ok {rs : List Row} (h : Web rs) (hl : rs.length ≤ 40) : m_Web_init (.str (textT rs)) = some (webFs rs) := by
  unfold m_Web_init
  have e1 : callO (a1 m_web_in) (consO (some (U.str (textT rs))) (some [])) = some (.tup (rowsU rs)) := web_in_ok h hl
  have e2 : testO (op2 isV (some (U.tup (rowsU rs))) (some U.non)) = some false := rfl
  have e6 : a1 m_rows_in [.tpd ((linesT rs).map pairU)] = some (.tup (rowTs (zigs (linesT rs)))) := rows_in_ok (by have := linesT_len h.row_two; omega)
  rw [e1, Option.bind_some, e2, Option.bind_some, if_neg Bool.false_ne_true, heads_of hl, Option.bind_some, pairs_of h hl, Option.bind_some]
  show (a1 m_rows_in [.tpd ((linesT rs).map pairU)]).map _ = _
  rw [e6]
  rfl
theorem make_ok {rs : List Row} (h : Web rs) (hl : rs.length ≤ 40) : callO (mkF 0 m_Web_init) (consO (some (U.str (textT rs))) (some [])) = some (webU rs) := by
  show (m_Web_init (.str (textT rs))).map (U.obj 0) = _
  rw [init_ok h hl]
  rfl

end K06
set_option Elab.async false
set_option linter.all false
set_option maxRecDepth 100000
set_option maxHeartbeats 2000000
namespace K06
open PySem L2 Dn
/-! ### the fields of a web -/
theorem f_written {rs : List Row} : op1 (fldV 0 "written") (some (webU rs)) = some (.str (textT rs)) := by
  show List.lookup ("written" : Str) (webFs rs) = _
  simp only [webFs, webF, List.lookup_cons, beq_self_eq_true]
theorem f_rows {rs : List Row} : op1 (fldV 0 "rows") (some (webU rs)) = some (.tup (rowsU rs)) := by
  have q_written : (("rows" : Str) == ("written" : Str)) = false := by decide +kernel
  show List.lookup ("rows" : Str) (webFs rs) = _
  simp only [webFs, webF, List.lookup_cons, beq_self_eq_true, q_written]
theorem f_heads {rs : List Row} : op1 (fldV 0 "heads") (some (webU rs)) = some (.tup (txs (names rs))) := by
  have q_written : (("heads" : Str) == ("written" : Str)) = false := by decide +kernel
  have q_rows : (("heads" : Str) == ("rows" : Str)) = false := by decide +kernel
  show List.lookup ("heads" : Str) (webFs rs) = _
  simp only [webFs, webF, List.lookup_cons, beq_self_eq_true, q_written, q_rows]
theorem f_pairs {rs : List Row} : op1 (fldV 0 "pairs") (some (webU rs)) = some (.tpd ((linesT rs).map pairU)) := by
  have q_written : (("pairs" : Str) == ("written" : Str)) = false := by decide +kernel
  have q_rows : (("pairs" : Str) == ("rows" : Str)) = false := by decide +kernel
  have q_heads : (("pairs" : Str) == ("heads" : Str)) = false := by decide +kernel
  show List.lookup ("pairs" : Str) (webFs rs) = _
  simp only [webFs, webF, List.lookup_cons, beq_self_eq_true, q_written, q_rows, q_heads]
theorem f_zigzag_rows {rs : List Row} : op1 (fldV 0 "zigzag_rows") (some (webU rs)) = some (.tup (rowTs (zigs (linesT rs)))) := by
  have q_written : (("zigzag_rows" : Str) == ("written" : Str)) = false := by decide +kernel
  have q_rows : (("zigzag_rows" : Str) == ("rows" : Str)) = false := by decide +kernel
  have q_heads : (("zigzag_rows" : Str) == ("heads" : Str)) = false := by decide +kernel
  have q_pairs : (("zigzag_rows" : Str) == ("pairs" : Str)) = false := by decide +kernel
  show List.lookup ("zigzag_rows" : Str) (webFs rs) = _
  simp only [webFs, webF, List.lookup_cons, beq_self_eq_true, q_written, q_rows, q_heads, q_pairs]
theorem p_text {rs : List Row} : op1 (propV 0 (a1 m_Web_text)) (some (webU rs)) = some (.str (textT rs)) := f_written
theorem p_names {rs : List Row} : op1 (propV 0 (a1 m_Web_names)) (some (webU rs)) = some (.tup (txs (names rs))) := f_heads
theorem p_lines {rs : List Row} : op1 (propV 0 (a1 m_Web_lines)) (some (webU rs)) = some (.tpd ((linesT rs).map pairU)) := f_pairs
def endsT (rs : List Row) : List Str := (names rs).filter fun n => !decide (n ∈ srcs rs)
theorem in_lst {s : Str} {ss : List Str} : inV2 (.str s) (.lst (txs ss)) = some (.bl (decide (s ∈ ss))) := by
  show (inO dep (.str s) (txs ss)).map U.bl = _
  rw [show dep = 39 + 1 from rfl, inO_tx]
  rfl
theorem in_tup {s : Str} {ss : List Str} : inV2 (.str s) (.tup (txs ss)) = some (.bl (decide (s ∈ ss))) := by
  show (inO dep (.str s) (txs ss)).map U.bl = _
  rw [show dep = 39 + 1 from rfl, inO_tx]
  rfl
theorem notIn_lst {s : Str} {ss : List Str} : notInV2 (.str s) (.lst (txs ss)) = some (.bl (!decide (s ∈ ss))) := by
  show (inO dep (.str s) (txs ss)).map (fun b => U.bl (!b)) = _
  rw [show dep = 39 + 1 from rfl, inO_tx]
  rfl
theorem notIn_tup {s : Str} {ss : List Str} : notInV2 (.str s) (.tup (txs ss)) = some (.bl (!decide (s ∈ ss))) := by
  show (inO dep (.str s) (txs ss)).map (fun b => U.bl (!b)) = _
  rw [show dep = 39 + 1 from rfl, inO_tx]
  rfl
/-- the copies of a source -/
def copsT (rs : List Row) (n : Str) : List Str := ((linesT rs).filter fun p => decide (p.1 = n)).map (·.2)
def srcsT (rs : List Row) (n : Str) : List Str := ((linesT rs).filter fun p => decide (p.2 = n)).map (·.1)
theorem check_ok {rs : List Row} {n : Str} (hn : n ∈ names rs) : m_check_copy (webU rs) (.str n) = some .non := by
  unfold m_check_copy
  rw [f_heads, op2_s, notIn_tup, decide_eq_true hn]
  rfl
theorem copies_of {rs : List Row} (h : Web rs) (hl : rs.length ≤ 40) {n : Str} (hn : n ∈ names rs) : m_Web_copies (webU rs) (.str n) = some (.tup (txs (copsT rs n))) := by
  have hlim : lim = 100000 := rfl
  unfold m_Web_copies
  rw [f_pairs, show callO (a2 m_check_copy) (consO (some (webU rs)) (consO (some (U.str n)) (some []))) = some .non from check_ok hn, Option.bind_some]
  have e1 : compO2 (fun u11 u14 => (testO (op2 eqV2 (some u11) (some (U.str n))))) (fun u11 u14 => (some u14)) (iterO U.iter (some (U.tpd ((linesT rs).map pairU)))) = some (.lst (txs (copsT rs n))) := by
    have := lcO_mf (p := fun u => (unp2 u).bind fun ab => (testO (op2 eqV2 (some ab.1) (some (U.str n))))) (f := fun u => (unp2 u).bind fun ab => some ab.2) (g := pairU) (q := fun p => decide (p.1 = n)) (h := fun p => U.str p.2) (linesT rs) (by have := linesT_len h.row_two; omega) (fun p _ => by
      show testO (eqV2 (.str p.1) (.str n)) = _
      rw [eqV2_ss, testO_s]; congr 1) (fun _ _ _ => rfl)
    rw [show txs (copsT rs n) = ((linesT rs).filter fun p => decide (p.1 = n)).map fun p => U.str p.2 by simp [txs, copsT]]
    exact this
  rw [e1]
  rfl
theorem sources_of {rs : List Row} (h : Web rs) (hl : rs.length ≤ 40) {n : Str} (hn : n ∈ names rs) : m_Web_sources (webU rs) (.str n) = some (.tup (txs (srcsT rs n))) := by
  have hlim : lim = 100000 := rfl
  unfold m_Web_sources
  rw [f_pairs, show callO (a2 m_check_copy) (consO (some (webU rs)) (consO (some (U.str n)) (some []))) = some .non from check_ok hn, Option.bind_some]
  have e1 : compO2 (fun u11 u14 => (testO (op2 eqV2 (some u14) (some (U.str n))))) (fun u11 u14 => (some u11)) (iterO U.iter (some (U.tpd ((linesT rs).map pairU)))) = some (.lst (txs (srcsT rs n))) := by
    have := lcO_mf (p := fun u => (unp2 u).bind fun ab => (testO (op2 eqV2 (some ab.2) (some (U.str n))))) (f := fun u => (unp2 u).bind fun ab => some ab.1) (g := pairU) (q := fun p => decide (p.2 = n)) (h := fun p => U.str p.1) (linesT rs) (by have := linesT_len h.row_two; omega) (fun p _ => by
      show testO (eqV2 (.str p.2) (.str n)) = _
      rw [eqV2_ss, testO_s]; congr 1) (fun _ _ _ => rfl)
    rw [show txs (srcsT rs n) = ((linesT rs).filter fun p => decide (p.2 = n)).map fun p => U.str p.1 by simp [txs, srcsT]]
    exact this
  rw [e1]
  rfl
/-- what a copy was made from, told by its own row -/
theorem srcsT_row {rs : List Row} (nd : (names rs).Nodup) : ∀ r ∈ rs, srcsT rs r.1 = r.2 := by
  induction rs with
  | nil => intro r hr; cases hr
  | cons x rs ih =>
    intro r hr
    rw [names, List.map_cons, List.nodup_cons] at nd
    have hsplit : srcsT (x :: rs) r.1 = ((x.2.map fun s => (s, x.1)).filter fun p => decide (p.2 = r.1)).map (·.1) ++ srcsT rs r.1 := by
      simp [srcsT, linesT, List.filter_append]
    rw [hsplit]
    rcases List.mem_cons.mp hr with rfl | hr
    · have e1 : ((r.2.map fun s => (s, r.1)).filter fun p => decide (p.2 = r.1)).map (·.1) = r.2 := by
        rw [List.filter_eq_self.mpr (fun p hp => by obtain ⟨s, _, rfl⟩ := List.mem_map.mp hp; simp), List.map_map]
        simp [Function.comp_def]
      have e2 : srcsT rs r.1 = [] := by
        unfold srcsT
        rw [List.map_eq_nil_iff, List.filter_eq_nil_iff]
        intro p hp
        obtain ⟨y, hy, hp⟩ := List.mem_flatMap.mp hp
        obtain ⟨s, _, rfl⟩ := List.mem_map.mp hp
        simp only [decide_eq_true_eq]
        exact fun z => nd.1 (List.mem_map.mpr ⟨y, hy, z⟩)
      rw [e1, e2, List.append_nil]
    · have hne : x.1 ≠ r.1 := fun z => nd.1 (List.mem_map.mpr ⟨r, hr, z.symm⟩)
      have e1 : ((x.2.map fun s => (s, x.1)).filter fun p => decide (p.2 = r.1)) = [] := by
        rw [List.filter_eq_nil_iff]
        intro p hp
        obtain ⟨s, _, rfl⟩ := List.mem_map.mp hp
        simpa using hne
      rw [e1, ih nd.2 r hr]
      rfl
/-! ### shown in little room -/
theorem Word.small {w : Str} (h : Word w) : ∀ c ∈ w.cps.toList, c < 16 ^ 8 := fun c hc => Nat.lt_of_le_of_lt (h.2.2 c hc).2 (by decide)
theorem join_small {a : Str} {ss : List Str} (ha : ∀ c ∈ a.cps.toList, c < 16 ^ 8) (h : ∀ s ∈ ss, ∀ c ∈ s.cps.toList, c < 16 ^ 8) : ∀ c ∈ (Txt.join a ss).cps.toList, c < 16 ^ 8 := fun c hc => by
  have hc : c ∈ TL.tl (Txt.join a ss) := hc
  rw [TL.join_eq, TL.tl_join] at hc
  rcases mem_joinL hc with hc | ⟨p, hp, hc⟩
  · exact ha c hc
  · obtain ⟨s, hs, rfl⟩ := List.mem_map.mp hp
    exact h s hs c hc
theorem text_small {rs : List Row} (h : Web rs) : ∀ c ∈ (textT rs).cps.toList, c < 16 ^ 8 := by
  refine join_small (by decide +kernel) fun p hp => ?_
  obtain ⟨r, hr, rfl⟩ := List.mem_map.mp hp
  refine join_small (by decide +kernel) fun s hs => ?_
  rcases List.mem_cons.mp hs with rfl | hs
  · exact (h.words _ (List.mem_map.mpr ⟨r, hr, rfl⟩)).small
  · exact (h.src_word hr s hs).small
theorem sh_words {ss : List Str} (h : ∀ s ∈ ss, Word s) : Shs (txs ss) (ss.map PyData.str) 0 (ss.length * 9) := Shs.map ss fun s hs => Sh.str (h s hs).small (h s hs).len
theorem sh_pair {p : Pr} (h1 : Word p.1) (h2 : Word p.2) : Sh (pairU p) (.tuple [.str p.1, .str p.2]) 1 18 := Sh.tup (Shs.cons (Sh.str h1.small h1.len) (Shs.cons (Sh.str h2.small h2.len) Shs.nil))
theorem line_words {rs : List Row} (h : Web rs) : ∀ p ∈ linesT rs, Word p.1 ∧ Word p.2 := fun p hp => by
  obtain ⟨r, hr, hp⟩ := List.mem_flatMap.mp hp
  obtain ⟨s, hs, rfl⟩ := List.mem_map.mp hp
  exact ⟨h.src_word hr s hs, h.words _ (List.mem_map.mpr ⟨r, hr, rfl⟩)⟩
theorem sh_lines {rs : List Row} (h : Web rs) : Shs ((linesT rs).map pairU) ((linesT rs).map fun p => .tuple [.str p.1, .str p.2]) 1 ((linesT rs).length * 19) := Shs.map _ fun p hp => sh_pair (line_words h p hp).1 (line_words h p hp).2
theorem allO_txs {n : Nat} : ∀ {ss : List Str}, allO (eqO (n + 1)) (txs ss) (txs ss) = some true
  | [] => rfl
  | s :: ss => by
    show (eqO (n + 1) (.str s) (.str s)).bind (fun a => (allO (eqO (n + 1)) (txs ss) (txs ss)).map fun b => a && b) = _
    rw [eqO_ss, allO_txs]
    simp
theorem eq_txs {n : Nat} {ss : List Str} : eqO (n + 2) (.tup (txs ss)) (.tup (txs ss)) = some true := by
  show (allO (eqO (n + 1)) (txs ss) (txs ss)).map (fun b => b && ((txs ss).length == (txs ss).length)) = _
  rw [allO_txs]
  simp
/-! ### the purse -/
theorem cut_ints {ns : List Int} {lo hi : Option Int} : cutU (ns.map U.int) lo hi = ((ns.drop (HT.sIx ns.length 0 lo)).take (HT.sIx ns.length ns.length hi - HT.sIx ns.length 0 lo)).map U.int := by
  unfold cutU
  rw [List.length_map, List.map_take, List.map_drop]
theorem purse_l1 {c : U} {k : U → SM U} : ∀ (ns : List Int) (s : Int), ∃ s', m_law_purse_l1 c k (ns.map U.int) (.int s) [] = k (.int s') []
  | [], s => ⟨s, rfl⟩
  | n :: ns, s => by
    obtain ⟨s', e⟩ := purse_l1 (c := c) (k := k) ns ((s * 40692 + n % 2147483647 + 101) % 2147483647)
    refine ⟨s', ?_⟩
    rw [← e]
    have e1 : op2 mulV (some (U.int s)) (some (U.int 40692)) = some (.int (s * 40692)) := mulV_r (by decide)
    show bindS (pureS (op2 modV (callO (c1 intV) (consO (op2 addV (op2 addV (op2 mulV (some (U.int s)) (some (U.int 40692))) (op2 modV (callO (c1 intV) (consO (some (U.int n)) (some []))) (some (U.int 2147483647)))) (some (U.int 101))) (some []))) (some (U.int 2147483647)))) (fun x56 => (m_law_purse_l1 c k (ns.map U.int) (x56))) [] = _
    rw [consO_s, callO_s, intV_i, e1, op2_s, modV_i (by decide), op2_s, addV_i, op2_s, addV_i, consO_s, callO_s, intV_i, op2_s, modV_i (by decide), bindS_pure]
theorem purse_ok {ns : List Int} {t : Nat} (hl : ns.length ≤ 63) : ∃ u, m_law_purse (.frl (ns.map U.int)) (.int t) = some u ∧ Urn u := by
  have el : callO lenV (consO (some (U.frl (ns.map U.int))) (some [])) = some (.int ns.length) := by simp [lenV]
  obtain ⟨c, ec⟩ : ∃ c : Int, ifO (testO (op2 ltV (some (U.int t)) (callO lenV (consO (some (U.frl (ns.map U.int))) (some []))))) (op2 getV (some (U.frl (ns.map U.int))) (some (U.int t))) (op2 mulV (some (U.int 6373)) (op2 addV (some (U.int t)) (some (U.int 5)))) = some (.int c) := by
    rw [el, op2_s, ltV_i, testO_s, ifO_s]
    split
    · rename_i ht
      have ht : (t : Int) < ns.length := by simpa using ht
      have ht2 : t < ns.length := by omega
      have : op2 getV (some (U.frl (ns.map U.int))) (some (U.int t)) = some (.int ns[t]) := atI_nat' (by simp [ht2])
      rw [this]
      exact ⟨_, rfl⟩
    · rw [op2_s, addV_i, op2_s, mulV_l (by decide)]
      exact ⟨_, rfl⟩
  have es : slO (some (U.frl (ns.map U.int))) (some none) (ptO (some (U.int 5))) = some (.lst (((ns.drop (HT.sIx ns.length 0 none)).take (HT.sIx ns.length ns.length (some 5) - HT.sIx ns.length 0 none)).map U.int)) := by
    show some (U.lst (cutU (ns.map U.int) none (some 5))) = _
    rw [cut_ints]
  have hms : ((ns.drop (HT.sIx ns.length 0 none)).take (HT.sIx ns.length ns.length (some 5) - HT.sIx ns.length 0 none)).length ≤ 63 := by
    rw [List.length_take, List.length_drop]; omega
  generalize (ns.drop (HT.sIx ns.length 0 none)).take (HT.sIx ns.length ns.length (some 5) - HT.sIx ns.length 0 none) = ms at es hms
  have hlim : lim = 100000 := rfl
  have ea : op2 addV (some (U.lst (ms.map U.int))) (lstO (consO (some (U.int c)) (some []))) = some (.lst ((ms ++ [c]).map U.int)) := by
    show (if (ms.map U.int).length + [U.int c].length ≤ lim then some (U.lst (ms.map U.int ++ [.int c])) else none) = _
    rw [if_pos (by simp; omega)]
    simp
  have ep : op2 powV (some (U.int 10)) (some (U.int 18)) = some (.int (10 ^ 18)) := by
    show (if (0 : Int) ≤ 18 ∧ (18 : Int) ≤ 1000000 ∧ (10 : Int).natAbs < 2 ^ 64 then some (U.int (10 ^ (18 : Int).toNat)) else none) = _
    rw [if_pos (by decide)]
    rfl
  obtain ⟨g, eg⟩ : ∃ g : Int, ifO (testO (op2 geV (callO (c1 absU) (consO (some (U.int c)) (some []))) (some (U.int (10 ^ 18))))) (callO (c1 absU) (consO (some (U.int c)) (some []))) (some (U.int 0)) = some (.int g) := by
    have : ∃ z : Int, callO (c1 absU) (consO (some (U.int c)) (some [])) = some (.int z) := ⟨_, rfl⟩
    obtain ⟨z, ez⟩ := this
    rw [ez, op2_s, geV_i, testO_s, ifO_s]
    split
    · exact ⟨_, rfl⟩
    · exact ⟨_, rfl⟩
  obtain ⟨s', e2⟩ := purse_l1 (c := .int c) (k := fun x68 => (nlstS (pureS (consO (ifO (testO (op2 geV (callO (c1 absU) (consO (some (U.int c)) (some []))) (op2 powV (some (U.int 10)) (some (U.int 18))))) (callO (c1 absU) (consO (some (U.int c)) (some []))) (some (U.int 0))) (consO (some x68) (some [])))))) (ms ++ [c]) (941 + t)
  refine ⟨.frl [.int g, .int s'], ?_, ⟨_, _, rfl⟩⟩
  have e4 : m_law_purseS (.frl (ns.map U.int)) (.int t) [] = some (.frl [.int g, .int s'], []) := by
    refine Eq.trans ?_ (e2.trans ?_)
    · unfold m_law_purseS
      rw [ec, bindS_pure, op2_s, addV_i, bindS_pure, withK_s, es, ea]
      rfl
    · show nlstS _ _ = _
      rw [ep, eg]
      rfl
  show (m_law_purseS (.frl (ns.map U.int)) (.int t) []).map Prod.fst = _
  rw [e4]
  rfl
theorem lcSL_const {p : U → SM Bool} {f : U → SM U} {v : U} (hp : ∀ x us, p x us = some (true, us)) : ∀ (xs : List U) (us : List U), (∀ x ∈ xs, f x us = some (v, us)) → lcSL p f xs us = some (xs.map fun _ => v, us)
  | [], us, _ => rfl
  | x :: xs, us, h => by
    have ih := lcSL_const hp xs us fun y hy => h y (List.mem_cons_of_mem _ hy)
    unfold lcSL
    rw [bindS_s (hp x us)]
    simp only [if_true]
    rw [bindS_s (h x (List.mem_cons_self ..)), bindS_s ih]
    rfl
/-! ### lists drawn -/
theorem lcSL_ex {p : U → SM Bool} {f : U → SM U} {t : List U} {P : U → Prop} (hp : ∀ x us, p x us = some (true, us)) : ∀ (xs : List U) (u : U), Urn u → (∀ x ∈ xs, ∀ u, Urn u → ∃ r u', f x (u :: t) = some (r, u' :: t) ∧ Urn u' ∧ P r) →
    ∃ rs u', lcSL p f xs (u :: t) = some (rs, u' :: t) ∧ Urn u' ∧ rs.length = xs.length ∧ ∀ r ∈ rs, P r
  | [], u, hu, _ => ⟨[], u, rfl, hu, rfl, fun r hr => nomatch hr⟩
  | x :: xs, u, hu, h => by
    obtain ⟨r, u1, e1, hu1, hr⟩ := h x (List.mem_cons_self ..) u hu
    obtain ⟨rs, u2, e2, hu2, hl, hrs⟩ := lcSL_ex hp xs u1 hu1 fun y hy => h y (List.mem_cons_of_mem _ hy)
    refine ⟨r :: rs, u2, ?_, hu2, by rw [List.length_cons, List.length_cons, hl], fun y hy => ?_⟩
    · unfold lcSL
      rw [bindS_s (hp x _)]
      simp only [if_true]
      rw [bindS_s e1, bindS_s e2]
      rfl
    · rcases List.mem_cons.mp hy with rfl | hy
      · exact hr
      · exact hrs y hy
theorem lcSL_fun {α : Type} {p : U → SM Bool} {f : U → SM U} {t : List U} {g h : α → U} (hp : ∀ x us, p x us = some (true, us)) : ∀ (xs : List α) (u : U), Urn u → (∀ x ∈ xs, ∀ u, Urn u → ∃ u', f (g x) (u :: t) = some (h x, u' :: t) ∧ Urn u') →
    ∃ u', lcSL p f (xs.map g) (u :: t) = some (xs.map h, u' :: t) ∧ Urn u'
  | [], u, hu, _ => ⟨u, rfl, hu⟩
  | x :: xs, u, hu, hh => by
    obtain ⟨u1, e1, hu1⟩ := hh x (List.mem_cons_self ..) u hu
    obtain ⟨u2, e2, hu2⟩ := lcSL_fun hp xs u1 hu1 fun y hy => hh y (List.mem_cons_of_mem _ hy)
    refine ⟨u2, ?_, hu2⟩
    rw [List.map_cons]
    unfold lcSL
    rw [bindS_s (hp _ _)]
    simp only [if_true]
    rw [bindS_s e1, bindS_s e2]
    rfl
def rowsV (rs : List Row) : U := .lst (rowsU rs)
def Drawn (rs : List Row) : Prop := Web rs ∧ rs.length ≤ 40
theorem drawn_list : ∀ {zs : List U}, (∀ z ∈ zs, ∃ rs, z = rowsV rs ∧ Drawn rs) → ∃ ws : List (List Row), zs = ws.map rowsV ∧ ∀ rs ∈ ws, Drawn rs
  | [], _ => ⟨[], rfl, fun r hr => nomatch hr⟩
  | z :: zs, h => by
    obtain ⟨rs, e, hd⟩ := h z (List.mem_cons_self ..)
    obtain ⟨ws, e2, hw⟩ := drawn_list fun y hy => h y (List.mem_cons_of_mem _ hy)
    refine ⟨rs :: ws, by rw [e, e2]; rfl, fun r hr => ?_⟩
    rcases List.mem_cons.mp hr with rfl | hr
    · exact hd
    · exact hw r hr
theorem rowsV_pls {ws : List (List Row)} : U.pls (ws.map rowsV) = true := by
  induction ws with
  | nil => rfl
  | cons w ws ih => simp [U.pls, rowsV, U.pl, rows_pl, ih]
theorem allO_bls {n : Nat} : ∀ {bs : List Bool}, allO (eqO (n + 1)) (bs.map U.bl) (bs.map U.bl) = some true
  | [] => rfl
  | b :: bs => by
    show (eqO (n + 1) (.bl b) (.bl b)).bind (fun a => (allO (eqO (n + 1)) (bs.map U.bl) (bs.map U.bl)).map fun c => a && c) = _
    rw [show eqO (n + 1) (.bl b) (.bl b) = some (b == b) from rfl, allO_bls]
    simp
theorem ne_bls {bs : List Bool} : testO (op2 neV2 (some (U.lst (bs.map U.bl))) (some (U.lst (bs.map U.bl)))) = some false := by
  show testO ((if (bs.map U.bl).length = (bs.map U.bl).length then allO (eqO 39) (bs.map U.bl) (bs.map U.bl) else some false).map fun b => U.bl (!b)) = _
  rw [if_pos rfl, show (39 : Nat) = 38 + 1 from rfl, allO_bls]
  rfl
theorem draw_rows {u : U} {t : List U} {n : Nat} {d : Int} (hu : Urn u) (h0 : 0 < n) (h1 : n ≤ 44) : ∃ rs u', bindS (consS (opS addV (pureS (some (U.int 1))) (bindS (pureS (consO (some (U.int n)) (some []))) fun xs => callM 0 (b1 m_law_draw) xs)) (consS (pureS (some (U.int d))) (pureS (some [])))) (fun xs => callM 0 (b2 m_law_rows) xs) (u :: t) = some (rowsV rs, u' :: t) ∧ Urn u' ∧ Web rs ∧ rs.length ≤ n := by
  obtain ⟨r, u2, e2, hu2, r0, r1⟩ := draw_at (t := t) (n := (n : Int)) hu (by omega) (by omega)
  obtain ⟨rs, u3, e3, hu3, hw, hl, _⟩ := rows_ok (u := u2) (n := (1 + r).toNat) (d := d) hu2 (by omega) (by omega)
  refine ⟨rs, u3, ?_, hu3, hw, by omega⟩
  have e2' : bindS (pureS (consO (some (U.int n)) (some []))) (fun xs => callM 0 (b1 m_law_draw) xs) (u :: t) = some (.int r, u2 :: t) := e2
  have e4 := opS_s (f := addV) (F := pureS (some (U.int 1))) (us := u :: t) rfl e2' (addV_i (i := 1) (j := r))
  rw [bindS_s (consS_s e4 (consS_s (a := .int d) (us1 := u2 :: t) rfl (l := []) (us2 := u2 :: t) rfl))]
  have e5 : (((1 + r).toNat : Nat) : Int) = 1 + r := by omega
  rw [e5] at e3
  exact callM_s (us := u2 :: t) (j := 0) rfl hu2.own e3
theorem pairs_l1 {k : U → Option U} : ∀ (suf : List Row) (acc : List Pr), (∀ r ∈ suf, r.2.length ≤ 2) → acc.length + 2 * suf.length < 1000 → m_law_pairs_l1 k (rowsU suf) (.lst (acc.map pairU)) = k (.lst ((acc ++ linesT suf).map pairU))
  | [], acc, _, _ => by simp [linesT]; rfl
  | r :: suf, acc, h2, hl => by
    have hr := h2 r (List.mem_cons_self ..)
    rw [List.length_cons] at hl
    have hlim : lim = 100000 := rfl
    have e1 : compO (fun u51 => (some true)) (fun u51 => (tupO (consO (some u51) (consO (some (U.str r.1)) (some []))))) (iterO U.iter (some (U.tup (txs r.2)))) = some (.lst ((r.2.map fun s => (s, r.1)).map pairU)) := by
      rw [List.map_map]
      exact lcO_map (g := U.str) (h := fun s => pairU (s, r.1)) r.2 (by omega) fun s _ => rfl
    have e2 : op2 addV (some (U.lst (acc.map pairU))) (some (.lst ((r.2.map fun s => (s, r.1)).map pairU))) = some (.lst ((acc ++ r.2.map fun s => (s, r.1)).map pairU)) := by
      show (if (acc.map pairU).length + ((r.2.map fun s => (s, r.1)).map pairU).length ≤ lim then some (U.lst (acc.map pairU ++ (r.2.map fun s => (s, r.1)).map pairU)) else none) = _
      rw [if_pos (by simp only [List.length_map]; omega), List.map_append]
    show (op2 addV (some (U.lst (acc.map pairU))) (compO (fun u51 => (some true)) (fun u51 => (tupO (consO (some u51) (consO (some (U.str r.1)) (some []))))) (iterO U.iter (some (U.tup (txs r.2)))))).bind (fun x54 => (m_law_pairs_l1 k (rowsU suf) (x54))) = _
    rw [e1, e2, Option.bind_some, pairs_l1 suf _ (fun x hx => h2 x (List.mem_cons_of_mem _ hx)) (by rw [List.length_append, List.length_map]; omega)]
    simp [linesT]
theorem pairs_ok {rs : List Row} (h : Web rs) (hl : rs.length ≤ 40) : m_law_pairs (.lst (rowsU rs)) = some (.lst ((linesT rs).map pairU)) := by
  have := pairs_l1 (k := fun x64 => (some x64)) rs [] h.row_two (by simp; omega)
  rw [List.nil_append] at this
  exact this

end K06
set_option Elab.async false
set_option linter.all false
set_option maxRecDepth 100000
set_option maxHeartbeats 2000000
namespace K06
open PySem L2 Dn
/-! ### lines that hang together -/
def Bes (a b : Pr) : Prop := a ≠ b ∧ (a.1 = b.1 ∨ a.2 = b.2)
theorem bes_iff {a b : Pr} : besB a b = true ↔ Bes a b := by simp [besB, Bes]
theorem Bes.symm {a b : Pr} (h : Bes a b) : Bes b a := ⟨fun z => h.1 z.symm, h.2.imp Eq.symm Eq.symm⟩
theorem Bes.ne {a b : Pr} (h : Bes a b) : a ≠ b := h.1
theorem besB_symm {a b : Pr} : besB a b = besB b a := by
  rw [Bool.eq_iff_iff, bes_iff, bes_iff]
  exact ⟨Bes.symm, Bes.symm⟩
/-- at most two lines with one source, at most two with one copy -/
structure Net (ls : List Pr) : Prop where
  nd : ls.Nodup
  src : ∀ a b c, a ∈ ls → b ∈ ls → c ∈ ls → b.1 = a.1 → c.1 = a.1 → b ≠ a → c ≠ a → b = c
  cop : ∀ a b c, a ∈ ls → b ∈ ls → c ∈ ls → b.2 = a.2 → c.2 = a.2 → b ≠ a → c ≠ a → b = c
theorem Net.two {ls : List Pr} (N : Net ls) {x a b y : Pr} (hx : x ∈ ls) (ha : a ∈ ls) (hb : b ∈ ls) (hy : y ∈ ls) (ab : a ≠ b) (xa : Bes a x) (xb : Bes b x) (xy : Bes y x) : y = a ∨ y = b := by
  rcases xa with ⟨na, xa⟩
  rcases xb with ⟨nb, xb⟩
  rcases xy with ⟨ny, xy⟩
  rcases xa with xa | xa <;> rcases xb with xb | xb
  · exact absurd (N.src x a b hx ha hb xa xb na nb) ab
  · rcases xy with xy | xy
    · exact .inl (N.src x y a hx hy ha xy xa ny na)
    · exact .inr (N.cop x y b hx hy hb xy xb ny nb)
  · rcases xy with xy | xy
    · exact .inr (N.src x y b hx hy hb xy xb ny nb)
    · exact .inl (N.cop x y a hx hy ha xy xa ny na)
  · exact absurd (N.cop x a b hx ha hb xa xb na nb) ab
/-- a row in which each is beside the next one -/
structure Chn (ls g : List Pr) : Prop where
  nd : g.Nodup
  sub : ∀ x ∈ g, x ∈ ls
  ch : ∀ i (h : i + 1 < g.length), Bes g[i] g[i + 1]
theorem nodup_inj {α : Type} {g : List α} (nd : g.Nodup) {i j : Nat} (hi : i < g.length) (hj : j < g.length) (e : g[i] = g[j]) : i = j := by
  rcases Nat.lt_trichotomy i j with h | h | h
  · exact absurd e ((List.pairwise_iff_getElem.mp nd) i j hi hj h)
  · exact h
  · exact absurd e.symm ((List.pairwise_iff_getElem.mp nd) j i hj hi h)
theorem Chn.one {ls : List Pr} {s : Pr} (h : s ∈ ls) : Chn ls [s] := ⟨by simp, fun x hx => by simp at hx; subst hx; exact h, fun i h => by simp at h⟩
theorem Chn.snoc {ls g : List Pr} {x : Pr} (c : Chn ls g) (hx : x ∈ ls) (hn : x ∉ g) (hb : ∀ (h : g ≠ []), Bes (g.getLast h) x) : Chn ls (g ++ [x]) := by
  refine ⟨?_, fun y hy => ?_, fun i h => ?_⟩
  · rw [List.nodup_append]
    exact ⟨c.nd, by simp, fun a ha b hb e => by simp at hb; subst hb; subst e; exact hn ha⟩
  · rcases List.mem_append.mp hy with hy | hy
    · exact c.sub y hy
    · simp at hy; subst hy; exact hx
  · rw [List.length_append, List.length_singleton] at h
    by_cases hi : i + 1 < g.length
    · rw [List.getElem_append_left (by omega), List.getElem_append_left hi]
      exact c.ch i hi
    · have hg : g ≠ [] := fun z => by subst z; simp at h
      have e1 : i + 1 = g.length := by omega
      rw [List.getElem_append_left (by omega), List.getElem_append_right (by omega)]
      have : g.getLast hg = g[i] := by
        rw [List.getLast_eq_getElem]
        congr 1
        omega
      rw [← this]
      simpa using hb hg
theorem Chn.rev {ls g : List Pr} (c : Chn ls g) : Chn ls g.reverse := by
  refine ⟨(List.reverse_perm g).nodup_iff.mpr c.nd, fun x hx => c.sub x (List.mem_reverse.mp hx), fun i h => ?_⟩
  rw [List.length_reverse] at h
  rw [List.getElem_reverse, List.getElem_reverse]
  have := c.ch (g.length - 1 - (i + 1)) (by omega)
  have e : g.length - 1 - (i + 1) + 1 = g.length - 1 - i := by omega
  simp only [e] at this
  exact this.symm
/-- what lies within the row is beside nothing else -/
theorem Chn.inner {ls g : List Pr} (N : Net ls) (c : Chn ls g) {i : Nat} (h0 : 0 < i) (h1 : i + 1 < g.length) {y : Pr} (hy : y ∈ ls) (hb : Bes y g[i]) : y = g[i - 1] ∨ y = g[i + 1] := by
  have b1 := c.ch (i - 1) (by omega)
  have e : i - 1 + 1 = i := by omega
  simp only [e] at b1
  have b2 := (c.ch i h1).symm
  refine N.two (c.sub _ (List.getElem_mem _)) (c.sub _ (List.getElem_mem _)) (c.sub _ (List.getElem_mem _)) hy (fun z => ?_) b1 b2 hb
  have := nodup_inj c.nd (by omega) h1 z
  omega
structure Fin' (ls g : List Pr) : Prop extends Chn ls g where
  ne : g ≠ []
  last : ∀ y ∈ ls, Bes y (g.getLast ne) → y ∈ g
theorem walkL_fin {ls : List Pr} (N : Net ls) : ∀ (n : Nat) (f : List Pr) (hf : f ≠ []), leftN ls f ≤ n → Chn ls f → Fin' ls (walkL ls n f (f.getLast hf))
  | 0, f, hf, hl, c => by
    show Fin' ls f
    refine { c with ne := hf, last := fun y hy hb => Classical.byContradiction fun hn => ?_ }
    have := left_snoc hy hn
    omega
  | n + 1, f, hf, hl, c => by
    unfold walkL
    split
    · rename_i e
      refine { c with ne := hf, last := fun y hy hb => Classical.byContradiction fun hn => ?_ }
      have : y ∈ laterL ls f (f.getLast hf) := List.mem_filter.mpr ⟨hy, by simp [bes_iff.mpr hb, hn]⟩
      rw [e] at this
      cases this
    · rename_i x r e
      have hx := later_mem (e ▸ List.mem_cons_self .. : x ∈ laterL ls f (f.getLast hf))
      have := walkL_fin N n (f ++ [x]) (by simp) (by have := left_snoc hx.1 hx.2.2; omega) (c.snoc hx.1 hx.2.2 fun h => (bes_iff.mp hx.2.1).symm)
      rw [show (f ++ [x]).getLast (by simp) = x by simp] at this
      exact this
theorem walkF_fin {ls : List Pr} (N : Net ls) {s : Pr} (hs : s ∈ ls) : Fin' ls (walkF ls s) := walkL_fin N ls.length [s] (by simp) left_le (Chn.one hs)
theorem walkF_head {ls : List Pr} {s : Pr} : (walkF ls s).head walkF_ne = s := by
  obtain ⟨g, h⟩ := walkF_pre (ls := ls) (s := s)
  simp [h]
/-- a set that nothing outside is beside -/
def Clo (ls R : List Pr) : Prop := ∀ x ∈ R, ∀ y ∈ ls, Bes y x → y ∈ R
theorem Clo.chain {ls R g : List Pr} (C : Clo ls R) (c : Chn ls g) {x : Pr} (hx : x ∈ g) (hR : x ∈ R) : ∀ y ∈ g, y ∈ R := by
  obtain ⟨i, hi, rfl⟩ := List.mem_iff_getElem.mp hx
  have up : ∀ k (h : i + k < g.length), g[i + k] ∈ R := by
    intro k
    induction k with
    | zero => intro h; exact hR
    | succ k ih =>
      intro h
      exact C _ (ih (by omega)) _ (c.sub _ (List.getElem_mem _)) (c.ch (i + k) (by omega)).symm
  have down : ∀ k (h : k ≤ i), g[i - k]'(by omega) ∈ R := by
    intro k
    induction k with
    | zero => intro h; exact hR
    | succ k ih =>
      intro h
      have b := c.ch (i - (k + 1)) (by omega)
      have e : i - (k + 1) + 1 = i - k := by omega
      simp only [e] at b
      exact C _ (ih (by omega)) _ (c.sub _ (List.getElem_mem _)) b
  intro y hy
  obtain ⟨j, hj, rfl⟩ := List.mem_iff_getElem.mp hy
  rcases Nat.le_total i j with h | h
  · have := up (j - i) (by omega)
    have e : i + (j - i) = j := by omega
    simp only [e] at this
    exact this
  · have := down (i - j) (by omega)
    have e : i - (i - j) = j := by omega
    simp only [e] at this
    exact this
theorem Fin'.tail {ls g : List Pr} (N : Net ls) (F : Fin' ls g) {i : Nat} (h0 : 0 < i) (h1 : i < g.length) {y : Pr} (hy : y ∈ ls) (hb : Bes y g[i]) : y ∈ g := by
  by_cases h : i + 1 < g.length
  · rcases F.toChn.inner N h0 h hy hb with e | e
    · rw [e]; exact List.getElem_mem _
    · rw [e]; exact List.getElem_mem _
  · refine F.last y hy ?_
    have : g.getLast F.ne = g[i] := by
      rw [List.getLast_eq_getElem]
      congr 1
      omega
    rw [this]
    exact hb
theorem closedB_iff {g : List Pr} (h : g ≠ []) : closedB g h = true ↔ 2 < g.length ∧ Bes (g.head h) (g.getLast h) := by simp [closedB, bes_iff]
theorem Fin'.ring {ls g : List Pr} (N : Net ls) (F : Fin' ls g) (hc : closedB g F.ne = true) : Clo ls g := by
  rw [closedB_iff] at hc
  intro x hx y hy hb
  obtain ⟨i, hi, rfl⟩ := List.mem_iff_getElem.mp hx
  by_cases h0 : 0 < i
  · exact F.tail N h0 hi hy hb
  · have e0 : i = 0 := by omega
    subst e0
    have b1 := (F.ch 0 (by omega)).symm
    have b2 := hc.2.symm
    have eh : g.head F.ne = g[0] := List.head_eq_getElem F.ne
    have el : g.getLast F.ne = g[g.length - 1] := List.getLast_eq_getElem F.ne
    rw [eh, el] at b2
    rcases N.two (F.sub _ (List.getElem_mem hi)) (F.sub _ (List.getElem_mem _)) (F.sub _ (List.getElem_mem _)) hy (fun z => by have := nodup_inj F.nd (by omega) (by omega) z; omega) b1 b2 hb with e | e
    · rw [e]; exact List.getElem_mem _
    · rw [e]; exact List.getElem_mem _
/-- the end of a walk that is no ring -/
theorem Fin'.one {ls g : List Pr} (N : Net ls) (F : Fin' ls g) (hc : ¬ closedB g F.ne = true) {y : Pr} (hy : y ∈ ls) (hb : Bes y (g.getLast F.ne)) : ∃ h : 1 < g.length, y = g[g.length - 2] := by
  have el : g.getLast F.ne = g[g.length - 1]'(by have := List.length_pos_iff.mpr F.ne; omega) := List.getLast_eq_getElem F.ne
  obtain ⟨j, hj, rfl⟩ := List.mem_iff_getElem.mp (F.last y hy hb)
  have hjl : j ≠ g.length - 1 := fun z => by
    subst z
    exact hb.ne el.symm
  refine ⟨by omega, ?_⟩
  by_cases e : j = g.length - 2
  · simp only [e]
  · exfalso
    by_cases h0 : 0 < j
    · have := F.toChn.inner N h0 (by omega) (F.sub _ (List.getLast_mem F.ne)) hb.symm
      rw [el] at this
      rcases this with z | z
      · have := nodup_inj F.nd (by omega) (by omega) z
        omega
      · have := nodup_inj F.nd (by omega) (by omega) z
        omega
    · have e0 : j = 0 := by omega
      subst e0
      apply hc
      rw [closedB_iff, List.head_eq_getElem]
      exact ⟨by omega, hb⟩
/-- a walk from such an end -/
theorem Fin'.path {ls g : List Pr} (N : Net ls) (F : Fin' ls g) (h1 : ∀ y z, y ∈ ls → z ∈ ls → Bes y (g.head F.ne) → Bes z (g.head F.ne) → y = z) : Clo ls g ∧ ¬ closedB g F.ne = true := by
  have eh : g.head F.ne = g[0]'(List.length_pos_iff.mpr F.ne) := List.head_eq_getElem F.ne
  have el : g.getLast F.ne = g[g.length - 1]'(by have := List.length_pos_iff.mpr F.ne; omega) := List.getLast_eq_getElem F.ne
  refine ⟨fun x hx y hy hb => ?_, fun hc => ?_⟩
  · obtain ⟨i, hi, rfl⟩ := List.mem_iff_getElem.mp hx
    by_cases h0 : 0 < i
    · exact F.tail N h0 hi hy hb
    · have e0 : i = 0 := by omega
      subst e0
      by_cases h2 : 1 < g.length
      · have := h1 y g[1] hy (F.sub _ (List.getElem_mem _)) (eh ▸ hb) (eh ▸ (F.ch 0 h2).symm)
        rw [this]
        exact List.getElem_mem _
      · refine F.last y hy ?_
        rw [el]
        have e : g.length - 1 = 0 := by omega
        simp only [e]
        exact hb
  · rw [closedB_iff] at hc
    have := h1 g[1] (g.getLast F.ne) (F.sub _ (List.getElem_mem _)) (F.sub _ (List.getLast_mem F.ne)) (eh ▸ (F.ch 0 (by omega)).symm) hc.2.symm
    rw [el] at this
    have := nodup_inj F.nd (by omega) (by omega) this
    omega
/-- how a zigzag is told -/
structure Zig (ls g : List Pr) : Prop extends Chn ls g where
  ne : g ≠ []
  clo : Clo ls g
theorem Zig.rev {ls g : List Pr} (z : Zig ls g) : Zig ls g.reverse := { z.toChn.rev with ne := by simpa using z.ne, clo := fun x hx y hy hb => List.mem_reverse.mpr (z.clo x (List.mem_reverse.mp hx) y hy hb) }
theorem rowF_cases {ls : List Pr} (N : Net ls) {s : Pr} (hs : s ∈ ls) : (rowF ls s = walkF ls s ∧ closedB (walkF ls s) walkF_ne = true ∧ Zig ls (walkF ls s)) ∨
    ∃ e, e ∈ ls ∧ (∀ y z, y ∈ ls → z ∈ ls → Bes y e → Bes z e → y = z) ∧ Zig ls (walkF ls e) ∧ ¬ closedB (walkF ls e) walkF_ne = true ∧ s ∈ walkF ls e ∧
      rowF ls s = if posL ls ((walkF ls e).head walkF_ne) ≤ posL ls ((walkF ls e).getLast walkF_ne) then walkF ls e else (walkF ls e).reverse := by
  have F1 := walkF_fin N hs
  by_cases hc : closedB (walkF ls s) walkF_ne = true
  · exact .inl ⟨by unfold rowF; simp only; rw [if_pos hc], hc, { F1.toChn with ne := F1.ne, clo := F1.ring N hc }⟩
  · have he : (walkF ls s).getLast walkF_ne ∈ ls := F1.sub _ (List.getLast_mem _)
    have h1 : ∀ y z, y ∈ ls → z ∈ ls → Bes y ((walkF ls s).getLast walkF_ne) → Bes z ((walkF ls s).getLast walkF_ne) → y = z := fun y z hy hz by' bz => by
      obtain ⟨_, e1⟩ := F1.one N hc hy by'
      obtain ⟨_, e2⟩ := F1.one N hc hz bz
      rw [e1, e2]
    have F2 := walkF_fin N he
    obtain ⟨C2, hc2⟩ := F2.path N (by rw [show (walkF ls ((walkF ls s).getLast walkF_ne)).head F2.ne = _ from walkF_head]; exact h1)
    refine .inr ⟨_, he, h1, { F2.toChn with ne := F2.ne, clo := C2 }, hc2, ?_, ?_⟩
    · have hh : (walkF ls s).getLast walkF_ne ∈ walkF ls ((walkF ls s).getLast walkF_ne) := by
        have := List.head_mem (walkF_ne (ls := ls) (s := (walkF ls s).getLast walkF_ne))
        rw [walkF_head] at this
        exact this
      have := C2.chain F1.toChn (List.getLast_mem walkF_ne) hh
      have hs2 := List.head_mem (walkF_ne (ls := ls) (s := s))
      rw [walkF_head] at hs2
      exact this s hs2
    · unfold rowF
      simp only
      rw [if_neg hc]
theorem rowF_zig {ls : List Pr} (N : Net ls) {s : Pr} (hs : s ∈ ls) : Zig ls (rowF ls s) ∧ s ∈ rowF ls s := by
  rcases rowF_cases N hs with ⟨e, hc, z⟩ | ⟨x, hx, h1, z, hc, hsx, e⟩
  · rw [e]
    refine ⟨z, ?_⟩
    have := List.head_mem (walkF_ne (ls := ls) (s := s))
    rw [walkF_head] at this
    exact this
  · rw [e]
    split
    · exact ⟨z, hsx⟩
    · exact ⟨z.rev, List.mem_reverse.mpr hsx⟩
/-! ### places -/
theorem pos_in {ls : List Pr} {x : Pr} (h : x ∈ ls) : ∃ hl : posL ls x < ls.length, ls[posL ls x] = x := by
  have hl : posL ls x < ls.length := List.findIdx_lt_length_of_exists ⟨x, h, by simp⟩
  refine ⟨hl, ?_⟩
  have := List.findIdx_getElem (w := hl)
  exact of_decide_eq_true this
theorem pos_inj {ls : List Pr} {x y : Pr} (hx : x ∈ ls) (hy : y ∈ ls) (e : posL ls x = posL ls y) : x = y := by
  obtain ⟨h1, e1⟩ := pos_in hx
  obtain ⟨h2, e2⟩ := pos_in hy
  rw [← e1, ← e2]
  simp only [e]
theorem pos_app {a b : List Pr} {x : Pr} : posL (a ++ b) x = if x ∈ a then posL a x else posL b x + a.length := by
  unfold posL
  rw [List.findIdx_append]
  by_cases h : x ∈ a
  · rw [if_pos h, if_pos (List.findIdx_lt_length_of_exists ⟨x, h, by simp⟩)]
  · rw [if_neg h, if_neg]
    intro z
    have := List.findIdx_getElem (w := z)
    simp only [decide_eq_true_eq] at this
    exact h (this ▸ List.getElem_mem _)
theorem pos_done {a b : List Pr} {x : Pr} (h : x ∈ a) : posL (a ++ b) x < a.length := by
  rw [pos_app, if_pos h]
  exact (pos_in h).1
theorem pos_new {a b : List Pr} {x : Pr} (h : x ∉ a) : a.length ≤ posL (a ++ b) x := by
  rw [pos_app, if_neg h]
  omega
theorem pos_next {a b : List Pr} {x : Pr} (h : x ∉ a) : posL (a ++ x :: b) x = a.length := by
  rw [pos_app, if_neg h]
  simp [posL, List.findIdx_cons]
/-- the first one that serves is the earliest -/
theorem pos_filter {p : Pr → Bool} : ∀ {ls : List Pr} {x : Pr} {r : List Pr}, ls.filter p = x :: r → ∀ y ∈ ls, p y = true → posL ls x ≤ posL ls y
  | [], _, _, h, _, _, _ => by simp at h
  | l :: ls, x, r, h, y, hy, py => by
    by_cases hp : p l = true
    · rw [List.filter_cons, if_pos hp] at h
      cases h
      simp [posL, List.findIdx_cons]
    · rw [List.filter_cons, if_neg hp] at h
      have hx : x ≠ l := fun z => by
        have : x ∈ ls.filter p := by rw [h]; simp
        exact hp (z ▸ (List.mem_filter.mp this).2)
      have hy2 : y ≠ l := fun z => hp (z ▸ py)
      have hy3 : y ∈ ls := by
        rcases List.mem_cons.mp hy with z | z
        · exact absurd z hy2
        · exact z
      have ih := pos_filter h y hy3 py
      unfold posL at ih ⊢
      rw [List.findIdx_cons, List.findIdx_cons]
      have e1 : decide (l = x) = false := by simpa using fun z => hx z.symm
      have e2 : decide (l = y) = false := by simpa using fun z => hy2 z.symm
      rw [e1, e2]
      simpa using ih
/-! ### how the zigzags are told -/
def Told (ls g : List Pr) (h : g ≠ []) : Prop :=
  (closedB g h = true ∧ (∀ y ∈ g, posL ls (g.head h) ≤ posL ls y) ∧ ∀ (h1 : 1 < g.length), ∀ y ∈ ls, Bes y (g.head h) → posL ls g[1] ≤ posL ls y) ∨
  (¬ closedB g h = true ∧ posL ls (g.head h) ≤ posL ls (g.getLast h) ∧ ∀ y z, y ∈ ls → z ∈ ls → Bes y (g.head h) → Bes z (g.head h) → y = z)
theorem walkF_second {ls : List Pr} {s : Pr} (h : 1 < (walkF ls s).length) : ∀ y ∈ ls, Bes y s → posL ls (walkF ls s)[1] ≤ posL ls y := by
  intro y hy hb
  have hy2 : y ∈ laterL ls [s] s := List.mem_filter.mpr ⟨hy, by simp [bes_iff.mpr hb, hb.ne]⟩
  have hlen : ls.length ≠ 0 := by
    have := List.length_pos_of_mem hy
    omega
  obtain ⟨n, hn⟩ : ∃ n, ls.length = n + 1 := ⟨ls.length - 1, by omega⟩
  cases e : laterL ls [s] s with
  | nil => rw [e] at hy2; cases hy2
  | cons x r =>
    have ew : walkF ls s = walkL ls n [s, x] x := by
      unfold walkF
      rw [hn]
      show (match laterL ls [s] s with | [] => [s] | x :: _ => walkL ls n ([s] ++ [x]) x) = _
      rw [e]
      rfl
    obtain ⟨g, hg⟩ := walkL_pre (ls := ls) n [s, x] x
    have e1 : (walkF ls s)[1] = x := by simp only [ew, hg]; rfl
    rw [e1]
    exact pos_filter e y hy (List.mem_filter.mp hy2).2
theorem closedB_rev {g : List Pr} (h : g ≠ []) (h' : g.reverse ≠ []) : closedB g.reverse h' = closedB g h := by
  unfold closedB
  rw [List.length_reverse, List.head_reverse, List.getLast_reverse, besB_symm]
theorem rowF_ne {ls : List Pr} {s : Pr} : rowF ls s ≠ [] := by
  unfold rowF
  simp only
  split
  · exact walkF_ne
  · split
    · exact walkF_ne
    · simpa using walkF_ne
theorem rowF_told {ls : List Pr} (N : Net ls) {s : Pr} (hs : s ∈ ls) (hm : ∀ y ∈ rowF ls s, posL ls s ≤ posL ls y) : Told ls (rowF ls s) rowF_ne := by
  rcases rowF_cases N hs with ⟨e, hc, z⟩ | ⟨x, hx, h1, z, hc, hsx, e⟩
  · have gen : ∀ (g : List Pr) (hg : g ≠ []), g = walkF ls s → (∀ y ∈ g, posL ls s ≤ posL ls y) → Told ls g hg := fun g hg eg hm => by
      subst eg
      refine .inl ⟨hc, ?_, ?_⟩
      · rw [walkF_head]; exact hm
      · intro hl
        rw [walkF_head]
        exact walkF_second hl
    exact gen _ rowF_ne e hm
  · have F2 := walkF_fin N hx
    have gen : ∀ (g : List Pr) (hg : g ≠ []), g = (if posL ls ((walkF ls x).head walkF_ne) ≤ posL ls ((walkF ls x).getLast walkF_ne) then walkF ls x else (walkF ls x).reverse) → Told ls g hg := fun g hg eg => by
      split at eg
      · rename_i hp
        subst eg
        refine .inr ⟨hc, hp, ?_⟩
        rw [walkF_head]
        exact h1
      · rename_i hp
        subst eg
        refine .inr ⟨by rw [closedB_rev walkF_ne]; exact hc, ?_, ?_⟩
        · rw [List.head_reverse, List.getLast_reverse]
          omega
        · rw [List.head_reverse]
          intro y w hy hw by' bw
          obtain ⟨_, e1⟩ := F2.one N hc hy by'
          obtain ⟨_, e2⟩ := F2.one N hc hw bw
          rw [e1, e2]
    exact gen _ rowF_ne e
/-- all rows so far -/
structure Zs (ls done : List Pr) (f : List (List Pr)) (ms : List Pr) : Prop where
  zig : ∀ g ∈ f, Zig ls g
  told : ∀ g ∈ f, ∃ h, Told ls g h
  met : ∀ x, x ∈ ms ↔ ∃ g ∈ f, x ∈ g
  cov : ∀ x ∈ done, ∃ g ∈ f, x ∈ g
  dis : f.Pairwise fun g h => ∀ x ∈ g, x ∉ h
  asc : f.Pairwise fun g h => ∃ a ∈ g, ∀ y ∈ h, posL ls a < posL ls y
  fst : ∀ g ∈ f, ∃ a ∈ g, a ∈ done
theorem Zs.nil {ls : List Pr} : Zs ls [] [] [] where
  zig := fun g h => by cases h
  told := fun g h => by cases h
  met := fun x => by simp
  cov := fun x h => by cases h
  dis := List.Pairwise.nil
  asc := List.Pairwise.nil
  fst := fun g h => by cases h
theorem rowsL_inv {ls : List Pr} (N : Net ls) : ∀ (suf done : List Pr) (f : List (List Pr)) (ms : List Pr), ls = done ++ suf → Zs ls done f ms → ∃ ms', Zs ls ls (rowsL ls suf f ms) ms'
  | [], done, f, ms, e, Z => by
    rw [List.append_nil] at e
    subst e
    exact ⟨ms, Z⟩
  | l :: suf, done, f, ms, e, Z => by
    have hl : l ∈ ls := by rw [e]; simp
    have e2 : ls = (done ++ [l]) ++ suf := by rw [e]; simp
    by_cases h : l ∈ ms
    · have : rowsL ls (l :: suf) f ms = rowsL ls suf f ms := by
        show (if l ∈ ms then _ else _) = _
        rw [if_pos h]
      rw [this]
      refine rowsL_inv N suf (done ++ [l]) f ms e2 { Z with cov := fun x hx => ?_, fst := fun g hg => ?_ }
      · rcases List.mem_append.mp hx with hx | hx
        · exact Z.cov x hx
        · simp at hx; subst hx; exact (Z.met _).mp h
      · obtain ⟨a, ha, hd⟩ := Z.fst g hg
        exact ⟨a, ha, List.mem_append_left _ hd⟩
    · have : rowsL ls (l :: suf) f ms = rowsL ls suf (f ++ [rowF ls l]) (putsM ms (rowF ls l)) := by
        show (if l ∈ ms then _ else _) = _
        rw [if_neg h]
      rw [this]
      obtain ⟨zg, hlg⟩ := rowF_zig N hl
      have hdis : ∀ g ∈ f, ∀ x ∈ g, x ∉ rowF ls l := fun g hg x hx hxr => by
        have := (Z.zig g hg).clo.chain zg.toChn hxr hx l hlg
        exact h ((Z.met l).mpr ⟨g, hg, this⟩)
      have hnd : ∀ y ∈ rowF ls l, y ∉ done := fun y hy hd => by
        obtain ⟨g, hg, hyg⟩ := Z.cov y hd
        exact hdis g hg y hyg hy
      have hpl : posL ls l = done.length := by rw [e]; exact pos_next (hnd l hlg)
      have hmin : ∀ y ∈ rowF ls l, posL ls l ≤ posL ls y := fun y hy => by
        rw [hpl, e]
        exact pos_new (hnd y hy)
      refine rowsL_inv N suf (done ++ [l]) (f ++ [rowF ls l]) (putsM ms (rowF ls l)) e2 ⟨fun g hg => ?_, fun g hg => ?_, fun x => ?_, fun x hx => ?_, ?_, ?_, fun g hg => ?_⟩
      · rcases List.mem_append.mp hg with hg | hg
        · exact Z.zig g hg
        · simp at hg; subst hg; exact zg
      · rcases List.mem_append.mp hg with hg | hg
        · exact Z.told g hg
        · simp at hg; subst hg; exact ⟨rowF_ne, rowF_told N hl hmin⟩
      · rw [mem_putsM, Z.met]
        constructor
        · rintro (⟨g, hg, hx⟩ | hx)
          · exact ⟨g, List.mem_append_left _ hg, hx⟩
          · exact ⟨_, List.mem_append_right _ (by simp), hx⟩
        · rintro ⟨g, hg, hx⟩
          rcases List.mem_append.mp hg with hg | hg
          · exact .inl ⟨g, hg, hx⟩
          · simp at hg; subst hg; exact .inr hx
      · rcases List.mem_append.mp hx with hx | hx
        · obtain ⟨g, hg, hxg⟩ := Z.cov x hx
          exact ⟨g, List.mem_append_left _ hg, hxg⟩
        · simp at hx; subst hx; exact ⟨_, List.mem_append_right _ (by simp), hlg⟩
      · rw [List.pairwise_append]
        refine ⟨Z.dis, by simp, fun g hg k hk => ?_⟩
        simp at hk; subst hk
        exact hdis g hg
      · rw [List.pairwise_append]
        refine ⟨Z.asc, by simp, fun g hg k hk => ?_⟩
        simp at hk; subst hk
        obtain ⟨a, ha, hd⟩ := Z.fst g hg
        refine ⟨a, ha, fun y hy => Nat.lt_of_lt_of_le ?_ (hmin y hy)⟩
        rw [hpl, e]
        exact pos_done hd
      · rcases List.mem_append.mp hg with hg | hg
        · obtain ⟨a, ha, hd⟩ := Z.fst g hg
          exact ⟨a, ha, List.mem_append_left _ hd⟩
        · simp at hg; subst hg; exact ⟨l, hlg, by simp⟩
theorem zigs_ok {ls : List Pr} (N : Net ls) : ∃ ms, Zs ls ls (zigs ls) ms := rowsL_inv N ls [] [] [] rfl .nil
/-! ### the lines of a web -/
theorem lines_nodup {rs : List Row} : (names rs).Nodup → (∀ r ∈ rs, r.2.Nodup) → (linesT rs).Nodup := by
  induction rs with
  | nil => intro _ _; simp [linesT]
  | cons r rs ih =>
    intro nd h2
    rw [names, List.map_cons, List.nodup_cons] at nd
    have ih := ih nd.2 fun x hx => h2 x (List.mem_cons_of_mem _ hx)
    show (r.2.map (fun s => (s, r.1)) ++ linesT rs).Nodup
    rw [List.nodup_append]
    refine ⟨?_, ih, fun a ha b hb e => ?_⟩
    · have := h2 r (List.mem_cons_self ..)
      exact List.Pairwise.map _ (fun a b hab z => hab (Prod.mk.inj z).1) this
    · obtain ⟨s, _, rfl⟩ := List.mem_map.mp ha
      subst e
      obtain ⟨y, hy, hb⟩ := List.mem_flatMap.mp hb
      obtain ⟨t, _, e⟩ := List.mem_map.mp hb
      exact nd.1 (List.mem_map.mpr ⟨y, hy, (Prod.mk.inj e).2⟩)
theorem Web.row_nd {rs : List Row} (h : Web rs) : ∀ r ∈ rs, r.2.Nodup := by
  induction h with
  | one _ => intro r hr; simp at hr; subst hr; simp
  | snoc _ _ _ _ _ nd _ ih =>
    intro r hr
    rcases List.mem_append.mp hr with hr | hr
    · exact ih r hr
    · simp at hr; subst hr; exact nd
theorem three {ls : List Pr} {a b c : Pr} {p : Pr → Bool} (h : (ls.filter p).length ≤ 2) (ha : a ∈ ls) (hb : b ∈ ls) (hc : c ∈ ls) (pa : p a = true) (pb : p b = true) (pc : p c = true) (ab : b ≠ a) (ac : c ≠ a) : b = c := by
  refine Classical.byContradiction fun bc => ?_
  have : [a, b, c].length ≤ (ls.filter p).length := nodup_le (by simp [Ne.symm ab, Ne.symm ac, bc]) fun x hx => by
    simp only [List.mem_cons, List.not_mem_nil, or_false] at hx
    rcases hx with rfl | rfl | rfl
    · exact List.mem_filter.mpr ⟨ha, pa⟩
    · exact List.mem_filter.mpr ⟨hb, pb⟩
    · exact List.mem_filter.mpr ⟨hc, pc⟩
  simp at this
  omega
theorem Web.net {rs : List Row} (h : Web rs) : Net (linesT rs) := by
  refine ⟨lines_nodup h.nodup h.row_nd, fun a b c ha hb hc e1 e2 n1 n2 => ?_, fun a b c ha hb hc e1 e2 n1 n2 => ?_⟩
  · refine three (p := fun p => decide (p.1 = a.1)) ?_ ha hb hc (by simp) (by simpa using e1) (by simpa using e2) n1 n2
    have h2 := h.two a.1
    unfold cnt at h2
    rw [← linesT_fst, List.count_eq_countP, List.countP_map, List.countP_eq_length_filter] at h2
    have e : ((fun x => x == a.1) ∘ fun x : Pr => x.1) = fun p : Pr => decide (p.1 = a.1) := by
      funext p
      rw [Bool.eq_iff_iff]
      simp
    rw [e] at h2
    exact h2
  · refine three (p := fun p => decide (p.2 = a.2)) ?_ ha hb hc (by simp) (by simpa using e1) (by simpa using e2) n1 n2
    obtain ⟨r, hr, ha'⟩ := List.mem_flatMap.mp ha
    obtain ⟨s, _, rfl⟩ := List.mem_map.mp ha'
    have := srcsT_row h.nodup r hr
    have h2 := h.row_two r hr
    rw [← this] at h2
    unfold srcsT at h2
    rw [List.length_map] at h2
    exact h2

end K06
set_option Elab.async false
set_option linter.all false
set_option maxRecDepth 100000
set_option maxHeartbeats 2000000
namespace K06
open PySem L2 Dn
/-! ### equal to itself -/
theorem allO_refl {n : Nat} : ∀ {xs : List U}, (∀ x ∈ xs, eqO n x x = some true) → allO (eqO n) xs xs = some true
  | [], _ => rfl
  | x :: xs, h => by
    show (eqO n x x).bind (fun a => (allO (eqO n) xs xs).map fun b => a && b) = _
    rw [h x (List.mem_cons_self ..), allO_refl fun y hy => h y (List.mem_cons_of_mem _ hy)]
    rfl
theorem eq_tupR {n : Nat} {xs : List U} (h : ∀ x ∈ xs, eqO n x x = some true) : eqO (n + 1) (.tup xs) (.tup xs) = some true := by
  show (allO (eqO n) xs xs).map (fun b => b && (xs.length == xs.length)) = _
  rw [allO_refl h]
  simp
theorem eq_lstR {n : Nat} {xs : List U} (h : ∀ x ∈ xs, eqO n x x = some true) : eqO (n + 1) (.lst xs) (.lst xs) = some true := by
  show (if xs.length = xs.length then allO (eqO n) xs xs else some false) = _
  rw [if_pos rfl, allO_refl h]
theorem ne_self {x : U} (h : eqO dep x x = some true) : testO (op2 neV2 (some x) (some x)) = some false := by
  show testO ((eqO dep x x).map fun b => U.bl (!b)) = _
  rw [h]
  rfl
theorem eq_pairs {n : Nat} {l : List Pr} : ∀ x ∈ l.map pairU, eqO (n + 2) x x = some true := fun x hx => by
  obtain ⟨p, _, rfl⟩ := List.mem_map.mp hx
  rw [eq_pair]
  simp
theorem ne_nilL {xs : List U} : testO (op2 neV2 (some (U.lst xs)) (lstO (some []))) = some (!xs.isEmpty) := by
  rw [lstO0, op2_s]
  cases xs with
  | nil => rfl
  | cons x xs => rfl
theorem lbeside_ok {a b : Pr} : m_law_beside (pairU a) (pairU b) = some (.bl (besB a b)) := beside_ok
theorem lidx_ok {ls : List Pr} {a : Pr} (h : a ∈ ls) : lidxV (.lst (ls.map pairU)) (pairU a) = some (.int (posL ls a : Nat)) := by
  show (inO dep (pairU a) (ls.map pairU)).bind (fun b => if b = true then some (U.int ((ls.map pairU).findIdx (hitU (pairU a)) : Nat)) else none) = _
  rw [show dep = 38 + 2 from rfl, inO_pairs, decide_eq_true h, Option.bind_some, if_pos rfl, findIdx_map']
  rfl
theorem intsU_map : ∀ ns : List Int, intsU (ns.map U.int) = some ns
  | [] => rfl
  | n :: ns => by
    show (intsU (ns.map U.int)).map (fun r => n :: r) = _
    rw [intsU_map ns]
    rfl
theorem min_of {ns : List Int} {m : Int} (h : m ∈ ns) (hm : ∀ y ∈ ns, m ≤ y) : callO minA (consO (some (U.lst (ns.map U.int))) (some [])) = some (.int m) := by
  show ((intsU (ns.map U.int)).bind minL).map U.int = _
  rw [intsU_map, Option.bind_some]
  cases ns with
  | nil => cases h
  | cons n r =>
    obtain ⟨h1, h2⟩ := @minL_mem ct0 (n :: r) (r.foldl min n) rfl
    have : r.foldl min n = m := Int.le_antisymm (h2 _ h) (hm _ h1)
    show some (U.int (r.foldl min n)) = _
    rw [this]
def posU (ls : List Pr) (p : Pr) : Int := (posL ls p : Nat)
theorem poss_of {ls g : List Pr} (hg : ∀ x ∈ g, x ∈ ls) (hl : g.length ≤ lim) {u : U} (hu : U.iter u = some (g.map pairU)) : compO (fun u4 => (some true)) (fun u4 => (op2 lidxV (some (U.lst (ls.map pairU))) (some u4))) (iterO U.iter (some u)) = some (.lst ((g.map (posU ls)).map U.int)) := by
  rw [iterO_s, hu, List.map_map]
  exact lcO_map (g := pairU) (h := fun p => U.int (posU ls p)) g hl fun p hp => lidx_ok (hg p hp)
/-! ### one row -/
theorem row_right {ls g : List Pr} (N : Net ls) (hl : ls.length ≤ 200) (z : Zig ls g) (t : Told ls g z.ne) : m_law_row_right (.tup (g.map pairU)) (.lst (ls.map pairU)) = some (.bl true) := by
  have hlim : lim = 100000 := rfl
  have hgl : g.length ≤ ls.length := nodup_le z.nd z.sub
  have hpos : 0 < g.length := List.length_pos_iff.mpr z.ne
  unfold m_law_row_right
  rw [poss_of z.sub (by omega) rfl, Option.bind_some]
  have elen : callO lenV (consO (some (U.tup (g.map pairU))) (some [])) = some (.int g.length) := by rw [len_tup, List.length_map]
  have ghead : op2 getV (some (U.tup (g.map pairU))) (some (U.int 0)) = some (pairU (g.head z.ne)) := by
    obtain ⟨x, r, rfl⟩ : ∃ x r, g = x :: r := by
      cases hgg : g with
      | nil => exact absurd hgg z.ne
      | cons x r => exact ⟨x, r, rfl⟩
    exact atI_nat' (k := 0) rfl
  have glast : op2 getV (some (U.tup (g.map pairU))) (op1 negV (some (U.int 1))) = some (pairU (g.getLast z.ne)) := last_at z.ne
  -- each beside the next
  have c1 : compO (fun u17 => (notO (testO (callO (a2 m_law_beside) (consO (op2 getV (some (U.tup (g.map pairU))) (op2 subV (some u17) (some (U.int 1)))) (consO (op2 getV (some (U.tup (g.map pairU))) (some u17)) (some []))))))) (fun u17 => (some u17)) (rngO rng2 (consO (some (U.int 1)) (consO (callO lenV (consO (some (U.tup (g.map pairU))) (some []))) (some [])))) = some (.lst []) := by
    rw [elen]
    have er : rngO rng2 (consO (some (U.int 1)) (consO (some (U.int g.length)) (some []))) = some (rangeU 1 (g.length - 1)) := by
      show (if (g.length : Int) ≤ 100000 ∧ -100000 ≤ (g.length : Int) ∧ (1 : Int) ≤ 100000 ∧ -100000 ≤ (1 : Int) then some (rangeU 1 ((g.length : Int) - 1).toNat) else none) = _
      rw [if_pos (by omega)]
      congr 2
      omega
    rw [er]
    have := lcO_mf (p := fun u17 => (notO (testO (callO (a2 m_law_beside) (consO (op2 getV (some (U.tup (g.map pairU))) (op2 subV (some u17) (some (U.int 1)))) (consO (op2 getV (some (U.tup (g.map pairU))) (some u17)) (some []))))))) (f := fun u17 => (some u17)) (g := fun k : Nat => U.int (1 + (k : Int))) (q := fun _ => false) (h := fun k : Nat => U.int (1 + (k : Int))) (List.range (g.length - 1)) (by rw [List.length_range]; omega) (fun k hk => by
      have hk := List.mem_range.mp hk
      have e1 : op2 getV (some (U.tup (g.map pairU))) (op2 subV (some (U.int (1 + (k : Int)))) (some (U.int 1))) = some (pairU g[k]) := by
        rw [op2_s, subV_i, show (1 + (k : Int)) - 1 = (k : Nat) by omega]
        exact atI_nat' (by simp [show k < g.length by omega])
      have e2 : op2 getV (some (U.tup (g.map pairU))) (some (U.int (1 + (k : Int)))) = some (pairU g[k + 1]) := by
        rw [show (1 + (k : Int)) = ((k + 1 : Nat) : Int) by omega]
        exact atI_nat' (by simp [show k + 1 < g.length by omega])
      rw [e1, e2]
      show notO (testO (m_law_beside (pairU g[k]) (pairU g[k + 1]))) = _
      rw [lbeside_ok, bes_iff.mpr (z.ch k (by omega))]
      rfl) (fun k _ hk => by cases hk)
    rw [List.filter_eq_nil_iff.mpr (fun _ _ h => by cases h)] at this
    exact this
  rw [c1, ne_nilL]
  rw [show (!([] : List U).isEmpty) = false from rfl, ifO_f]
  -- near
  have near : compO (fun u33 => (testO (callO (a2 m_law_beside) (consO (some u33) (consO (op2 getV (some (U.tup (g.map pairU))) (some (U.int 0))) (some [])))))) (fun u33 => (some u33)) (iterO U.iter (some (U.tup (g.map pairU)))) = some (.lst ((g.filter fun p => besB p (g.head z.ne)).map pairU)) := by
    rw [ghead]
    exact lcO_mf (p := fun u33 => (testO (callO (a2 m_law_beside) (consO (some u33) (consO (some (pairU (g.head z.ne))) (some [])))))) (f := fun u33 => (some u33)) (g := pairU) (q := fun p => besB p (g.head z.ne)) (h := pairU) g (by omega) (fun p _ => by
      show testO (m_law_beside (pairU p) (pairU (g.head z.ne))) = _
      rw [lbeside_ok]; rfl) (fun _ _ _ => rfl)
  rw [near, Option.bind_some]
  have lone : compO (fun u46 => (orO (testO (callO (a2 m_law_beside) (consO (some u46) (consO (op2 getV (some (U.tup (g.map pairU))) (some (U.int 0))) (some []))))) (testO (callO (a2 m_law_beside) (consO (some u46) (consO (op2 getV (some (U.tup (g.map pairU))) (op1 negV (some (U.int 1)))) (some []))))))) (fun u46 => (some u46)) (iterO U.iter (some (U.lst (ls.map pairU)))) = some (.lst ((ls.filter fun p => besB p (g.head z.ne) || besB p (g.getLast z.ne)).map pairU)) := by
    rw [ghead, glast]
    exact lcO_mf (p := fun u46 => (orO (testO (callO (a2 m_law_beside) (consO (some u46) (consO (some (pairU (g.head z.ne))) (some []))))) (testO (callO (a2 m_law_beside) (consO (some u46) (consO (some (pairU (g.getLast z.ne))) (some []))))))) (f := fun u46 => (some u46)) (g := pairU) (q := fun p => besB p (g.head z.ne) || besB p (g.getLast z.ne)) (h := pairU) ls (by omega) (fun p _ => by
      show orO (testO (m_law_beside (pairU p) (pairU (g.head z.ne)))) (testO (m_law_beside (pairU p) (pairU (g.getLast z.ne)))) = _
      rw [lbeside_ok, lbeside_ok, testO_s, testO_s, orO_s]) (fun _ _ _ => rfl)
  rw [lone, Option.bind_some]
  have out : compO (fun u59 => (testO (op2 notInV2 (some u59) (some (U.tup (g.map pairU)))))) (fun u59 => (some u59)) (iterO U.iter (some (U.lst ((ls.filter fun p => besB p (g.head z.ne) || besB p (g.getLast z.ne)).map pairU)))) = some (.lst []) := by
    have hM : ∀ p ∈ ls.filter (fun p => besB p (g.head z.ne) || besB p (g.getLast z.ne)), p ∈ g := fun p hp => by
      have hp := List.mem_filter.mp hp
      have hb := hp.2
      simp only [Bool.or_eq_true, bes_iff] at hb
      rcases hb with hb | hb
      · exact z.clo _ (List.head_mem z.ne) p hp.1 hb
      · exact z.clo _ (List.getLast_mem z.ne) p hp.1 hb
    have hMl : (ls.filter fun p => besB p (g.head z.ne) || besB p (g.getLast z.ne)).length ≤ lim := by have := List.length_filter_le (fun p => besB p (g.head z.ne) || besB p (g.getLast z.ne)) ls; omega
    generalize (ls.filter fun p => besB p (g.head z.ne) || besB p (g.getLast z.ne)) = M at hM hMl
    have := lcO_mf (p := fun u59 => (testO (op2 notInV2 (some u59) (some (U.tup (g.map pairU)))))) (f := fun u59 => (some u59)) (g := pairU) (q := fun p => !decide (p ∈ g)) (h := pairU) M hMl (fun p _ => by
      show testO ((inO dep (pairU p) (g.map pairU)).map fun b => U.bl (!b)) = _
      rw [show dep = 38 + 2 from rfl, inO_pairs]; rfl) (fun _ _ _ => rfl)
    rw [List.filter_eq_nil_iff.mpr (fun p hp h => by simp [hM p hp] at h)] at this
    exact this
  rw [out, ne_nilL, show (!([] : List U).isEmpty) = false from rfl, ifO_f]
  have ec : andO (testO (op2 gtV (callO lenV (consO (some (U.tup (g.map pairU))) (some []))) (some (U.int 2)))) (testO (callO (a2 m_law_beside) (consO (op2 getV (some (U.tup (g.map pairU))) (some (U.int 0))) (consO (op2 getV (some (U.tup (g.map pairU))) (op1 negV (some (U.int 1)))) (some []))))) = some (closedB g z.ne) := by
    rw [elen, ghead, glast]
    show andO (some (decide ((2 : Int) < g.length))) (testO (m_law_beside (pairU (g.head z.ne)) (pairU (g.getLast z.ne)))) = _
    rw [lbeside_ok, testO_s, andO_s]
    unfold closedB
    congr 2
    rw [decide_eq_decide]
    omega
  rw [ec, ifO_s]
  have at0 : op2 getV (some (U.lst ((g.map (posU ls)).map U.int))) (some (U.int 0)) = some (.int (posU ls (g.head z.ne))) := by
    refine atI_nat' (k := 0) ?_
    rw [List.head_eq_getElem]
    simp [hpos]
  rcases t with ⟨hc, t1, t2⟩ | ⟨hc, t1, t2⟩
  · rw [if_pos hc]
    rw [closedB_iff] at hc
    have h1 : 1 < g.length := by omega
    have m1 : callO minA (consO (some (U.lst ((g.map (posU ls)).map U.int))) (some [])) = some (.int (posU ls (g.head z.ne))) := min_of (List.mem_map.mpr ⟨_, List.head_mem z.ne, rfl⟩) (fun y hy => by
      obtain ⟨p, hp, rfl⟩ := List.mem_map.mp hy
      have := t1 p hp
      unfold posU
      omega)
    have at1 : op2 getV (some (U.lst ((g.map (posU ls)).map U.int))) (some (U.int 1)) = some (.int (posU ls g[1])) := atI_nat' (k := 1) (by simp [h1])
    have hsub : ∀ x ∈ g.filter (fun p => besB p (g.head z.ne)), x ∈ ls := fun x hx => z.sub x (List.mem_filter.mp hx).1
    rw [at0, m1, at1, poss_of hsub (by have := List.length_filter_le (fun p => besB p (g.head z.ne)) g; omega) rfl]
    have hb1 : Bes g[1] (g.head z.ne) := by
      rw [List.head_eq_getElem]
      exact (z.ch 0 h1).symm
    have m2 : callO minA (consO (some (U.lst (((g.filter fun p => besB p (g.head z.ne)).map (posU ls)).map U.int))) (some [])) = some (.int (posU ls g[1])) := min_of (List.mem_map.mpr ⟨g[1], List.mem_filter.mpr ⟨List.getElem_mem _, bes_iff.mpr hb1⟩, rfl⟩) (fun y hy => by
      obtain ⟨p, hp, rfl⟩ := List.mem_map.mp hy
      have hp := List.mem_filter.mp hp
      have := t2 h1 p (z.sub p hp.1) (bes_iff.mp hp.2)
      unfold posU
      omega)
    rw [m2, op2_s, eqV2_ii, op2_s, eqV2_ii, andV_s]
    simp
  · rw [if_neg hc, at0]
    have atl : op2 getV (some (U.lst ((g.map (posU ls)).map U.int))) (op1 negV (some (U.int 1))) = some (.int (posU ls (g.getLast z.ne))) := by
      show atI ((g.map (posU ls)).map U.int) (-1) = _
      have e : (g.map (posU ls)).map U.int = (g.dropLast.map (posU ls)).map U.int ++ [U.int (posU ls (g.getLast z.ne))] := by
        have := List.dropLast_concat_getLast z.ne
        rw [show [U.int (posU ls (g.getLast z.ne))] = ([g.getLast z.ne].map (posU ls)).map U.int from rfl, ← List.map_append, ← List.map_append, this]
      rw [e]
      exact atI_neg1
    rw [atl, op2_s, leV_i, elen, len_lst, List.length_map, op2_s, subV_i]
    have ln : (g.filter fun p => besB p (g.head z.ne)).length = min 1 (g.length - 1) := by
      by_cases h1 : 1 < g.length
      · have hb1 : Bes g[1] (g.head z.ne) := by
          rw [List.head_eq_getElem]
          exact (z.ch 0 h1).symm
        have hle : (g.filter fun p => besB p (g.head z.ne)).length ≤ [g[1]].length := nodup_le (z.nd.filter _) fun p hp => by
          have hp := List.mem_filter.mp hp
          rw [t2 p g[1] (z.sub p hp.1) (z.sub _ (List.getElem_mem _)) (bes_iff.mp hp.2) hb1]
          simp
        have hge : 0 < (g.filter fun p => besB p (g.head z.ne)).length := List.length_pos_of_mem (List.mem_filter.mpr ⟨List.getElem_mem h1, bes_iff.mpr hb1⟩)
        simp at hle
        omega
      · have e0 : g.filter (fun p => besB p (g.head z.ne)) = [] := by
          rw [List.filter_eq_nil_iff]
          intro p hp hb
          obtain ⟨j, hj, rfl⟩ := List.mem_iff_getElem.mp hp
          have hb := bes_iff.mp hb
          rw [List.head_eq_getElem] at hb
          have : j = 0 := by omega
          subst this
          exact hb.ne rfl
        rw [e0]
        simp
        omega
    have em : callO minU (consO (some (U.int 1)) (consO (some (U.int ((g.length : Int) - 1))) (some []))) = some (.int (min 1 (g.length - 1) : Nat)) := by
      show some (U.int (if ((g.length : Int) - 1) < 1 then ((g.length : Int) - 1) else 1)) = _
      congr 2
      split <;> omega
    rw [em, op2_s, eqV2_ii, ln, andV_s]
    have : decide (posU ls (g.head z.ne) ≤ posU ls (g.getLast z.ne)) = true := by
      rw [decide_eq_true_eq]
      unfold posU
      omega
    rw [this]
    simp

end K06
set_option Elab.async false
set_option linter.all false
set_option maxRecDepth 100000
set_option maxHeartbeats 2000000
namespace K06
open PySem L2 Dn
/-! ### sorted -/
theorem enc_pair {p : Pr} : encU (pairU p) = .tuple [.str p.1, .str p.2] := by simp [encU, pairU, U.py, U.pys]
theorem enc_int {i : Int} : encU (.int i) = .int i := by simp [encU, U.py]
theorem pys_pairs : ∀ l : List Pr, U.pys (l.map pairU) = some (l.map fun p => .tuple [.str p.1, .str p.2])
  | [] => by simp [U.pys]
  | p :: l => by
    rw [List.map_cons, List.map_cons]
    simp only [U.pys, pys_pairs l]
    simp [pairU, U.py, U.pys]
theorem pys_ints : ∀ l : List Int, U.pys (l.map U.int) = some (l.map PyData.int)
  | [] => by simp [U.pys]
  | p :: l => by
    rw [List.map_cons, List.map_cons]
    simp only [U.pys, pys_ints l]
    simp [U.py]
theorem sortable_pairs {l : List Pr} : sortable (l.map fun p => .tuple [.str p.1, .str p.2]) = true := by
  simp only [sortable, Bool.and_eq_true, Bool.or_eq_true, List.all_eq_true, decide_eq_true_eq, List.mem_map]
  refine ⟨⟨?_, .inl ?_⟩, ?_⟩
  · rintro d ⟨p, _, rfl⟩ d' ⟨q, _, rfl⟩
    simp [PySem.W.alike, PySem.W.alikeAll]
  · rintro d ⟨p, _, rfl⟩
    rfl
  · rintro d ⟨p, _, rfl⟩
    simp [PyData.depth, PyData.depthAll]
theorem sortable_ints {l : List Int} : sortable (l.map PyData.int) = true := by
  simp only [sortable, Bool.and_eq_true, Bool.or_eq_true, List.all_eq_true, decide_eq_true_eq, List.mem_map]
  refine ⟨⟨?_, .inr ?_⟩, ?_⟩
  · rintro d ⟨p, _, rfl⟩ d' ⟨q, _, rfl⟩
    simp [PySem.W.alike]
  · rintro d ⟨p, _, rfl⟩
    rfl
  · rintro d ⟨p, _, rfl⟩
    simp [PyData.depth]
theorem sorted_pairs {l : List Pr} : callO (c1 sortedV) (consO (some (U.lst (l.map pairU))) (some [])) = some (.lst (sortL (l.map pairU))) := by
  show (U.pys (l.map pairU)).bind (fun ds => if sortable ds = true then some (U.lst (sortL (l.map pairU))) else none) = _
  rw [pys_pairs, Option.bind_some, if_pos sortable_pairs]
theorem sort_perm {a b : List Pr} (h : a.Perm b) : sortL (a.map pairU) = sortL (b.map pairU) := by
  have T := PySem.W.sortLe_total (PyProof.Rows.listOrd PyProof.Rows.itemOrd) false fun u : U => PySem.W.keyToks (encU u)
  refine List.Perm.eq_of_pairwise (le := fun x y => PySem.W.dataLe false encU x y = true) (fun x y hx hy h1 h2 => ?_) (List.pairwise_mergeSort T.trans (fun a b => by simpa using T.total a b) _) (List.pairwise_mergeSort T.trans (fun a b => by simpa using T.total a b) _) (((List.mergeSort_perm _ _).trans (h.map pairU)).trans (List.mergeSort_perm _ _).symm)
  obtain ⟨p, _, rfl⟩ := List.mem_map.mp ((List.mergeSort_perm _ _).mem_iff.mp hx)
  obtain ⟨q, _, rfl⟩ := List.mem_map.mp ((List.mergeSort_perm _ _).mem_iff.mp hy)
  have h1 : (!(PyProof.Rows.listOrd PyProof.Rows.itemOrd).blt (PySem.W.keyToks (encU (pairU q))) (PySem.W.keyToks (encU (pairU p)))) = true := h1
  have h2 : (!(PyProof.Rows.listOrd PyProof.Rows.itemOrd).blt (PySem.W.keyToks (encU (pairU p))) (PySem.W.keyToks (encU (pairU q)))) = true := h2
  rw [Bool.not_eq_true'] at h1 h2
  have e := (PyProof.Rows.listOrd PyProof.Rows.itemOrd).total _ _ h2 h1
  rw [enc_pair, enc_pair] at e
  simp [PySem.W.keyToks, PySem.W.keyToksAll] at e
  have e1 : p.1 = q.1 := by
    cases hp : p.1; cases hq : q.1
    rw [hp, hq] at e
    simpa using e.1
  have e2 : p.2 = q.2 := by
    cases hp : p.2; cases hq : q.2
    rw [hp, hq] at e
    simpa using e.2
  rw [show p = q from Prod.ext e1 e2]
theorem sorted_ints {l : List Int} (h : l.Pairwise (· ≤ ·)) : callO (c1 sortedV) (consO (some (U.lst (l.map U.int))) (some [])) = some (.lst (l.map U.int)) := by
  show (U.pys (l.map U.int)).bind (fun ds => if sortable ds = true then some (U.lst (sortL (l.map U.int))) else none) = _
  rw [pys_ints, Option.bind_some, if_pos sortable_ints]
  have : sortL (l.map U.int) = l.map U.int := by
    refine List.mergeSort_of_pairwise ?_
    rw [List.pairwise_map]
    refine h.imp fun {a b} hab => ?_
    show (!(PyProof.Rows.listOrd PyProof.Rows.itemOrd).blt (PySem.W.keyToks (encU (.int b))) (PySem.W.keyToks (encU (.int a)))) = true
    rw [enc_int, enc_int]
    simp [PySem.W.keyToks, PyProof.Rows.itemLt, PyProof.Rows.listOrd, PyProof.Rows.lexLt, hab]
    try omega
  rw [this]

end K06
set_option Elab.async false
set_option linter.all false
set_option maxRecDepth 100000
set_option maxHeartbeats 2000000
namespace K06
open PySem L2 Dn
/-! ### all rows together -/
def rowU' (g : List Pr) : U := .tup (g.map pairU)
theorem rowTs_eq {f : List (List Pr)} : rowTs f = f.map rowU' := rfl
theorem right_l2 {x y z : U} {k : U → SM U} : ∀ (suf : List (List Pr)) (acc : List Pr), acc.length + suf.flatten.length ≤ 1000 → m_law_right_l2 x y z k (suf.map rowU') (.lst (acc.map pairU)) = k (.lst ((acc ++ suf.flatten).map pairU))
  | [], acc, _ => by simp; rfl
  | g :: suf, acc, h => by
    have hlim : lim = 100000 := rfl
    rw [List.flatten_cons, List.length_append] at h
    have ih := right_l2 (x := x) (y := y) (z := z) (k := k) suf (acc ++ g) (by rw [List.length_append]; omega)
    have e : op2 addV (some (U.lst (acc.map pairU))) (callO (c1 listB) (consO (some (rowU' g)) (some []))) = some (.lst ((acc ++ g).map pairU)) := by
      show (if (acc.map pairU).length + (g.map pairU).length ≤ lim then some (U.lst (acc.map pairU ++ g.map pairU)) else none) = _
      rw [if_pos (by simp only [List.length_map]; omega), List.map_append]
    show bindS (pureS (op2 addV (some (U.lst (acc.map pairU))) (callO (c1 listB) (consO (some (rowU' g)) (some []))))) (fun x146 => m_law_right_l2 x y z k (suf.map rowU') x146) = _
    rw [e, bindS_pure, ih]
    simp
theorem flat_perm {ls : List Pr} {f : List (List Pr)} {ms : List Pr} (N : Net ls) (Z : Zs ls ls f ms) : f.flatten.Perm ls := by
  refine (List.perm_ext_iff_of_nodup ?_ N.nd).mpr fun x => ?_
  · refine List.pairwise_flatten.mpr ⟨fun g hg => (Z.zig g hg).nd, Z.dis.imp (fun {g h} (hgh : ∀ x ∈ g, x ∉ h) a ha b hb (e : a = b) => hgh a ha (e ▸ hb))⟩
  · rw [List.mem_flatten]
    exact ⟨fun ⟨g, hg, hx⟩ => (Z.zig g hg).sub x hx, fun hx => by
      obtain ⟨g, hg, hxg⟩ := Z.cov x hx
      exact ⟨g, hg, hxg⟩⟩
def mp (ls g : List Pr) : Int := (minL (g.map (posU ls))).getD 0
theorem mp_of {ls g : List Pr} (h : g ≠ []) : minL (g.map (posU ls)) = some (mp ls g) := by
  cases g with
  | nil => exact absurd rfl h
  | cons x g => rfl
theorem mp_mem {ls g : List Pr} (h : g ≠ []) : (∃ a ∈ g, mp ls g = posU ls a) ∧ ∀ y ∈ g, mp ls g ≤ posU ls y := by
  obtain ⟨h1, h2⟩ := @minL_mem ct0 _ _ (mp_of (ls := ls) h)
  obtain ⟨a, ha, e⟩ := List.mem_map.mp h1
  exact ⟨⟨a, ha, e.symm⟩, fun y hy => h2 _ (List.mem_map.mpr ⟨y, hy, rfl⟩)⟩
theorem firsts_ok {ls : List Pr} {f : List (List Pr)} {ms : List Pr} (hl : ls.length ≤ 200) (hf : f.length ≤ 1000) (Z : Zs ls ls f ms) : compO (fun u170 => (some true)) (fun u170 => (callO minA (consO (compO (fun u176 => (some true)) (fun u176 => (op2 lidxV (some (U.lst (ls.map pairU))) (some u176))) (iterO U.iter (some u170))) (some [])))) (iterO U.iter (some (U.tup (rowTs f)))) = some (.lst ((f.map (mp ls)).map U.int)) := by
  have hlim : lim = 100000 := rfl
  rw [List.map_map]
  refine lcO_map (g := rowU') (h := fun g => U.int (mp ls g)) f (by omega) fun g hg => ?_
  have z := Z.zig g hg
  have hgl : g.length ≤ ls.length := nodup_le z.nd z.sub
  rw [poss_of (u := rowU' g) z.sub (by omega) rfl]
  show ((intsU ((g.map (posU ls)).map U.int)).bind minL).map U.int = _
  rw [intsU_map, Option.bind_some, mp_of z.ne]
  rfl
theorem firsts_asc {ls : List Pr} {f : List (List Pr)} {ms : List Pr} (Z : Zs ls ls f ms) : (f.map (mp ls)).Pairwise (· ≤ ·) := by
  rw [List.pairwise_map]
  refine List.Pairwise.imp_of_mem (fun {g h} hg hh hgh => ?_) Z.asc
  obtain ⟨a, ha, hy⟩ := hgh
  have h1 := (mp_mem (ls := ls) (Z.zig g hg).ne).2 a ha
  obtain ⟨b, hb, e⟩ := (mp_mem (ls := ls) (Z.zig h hh).ne).1
  have h2 := hy b hb
  rw [e]
  unfold posU at h1 ⊢
  omega
/-! ### the place of a line -/
theorem findIdx_row {f : List (List Pr)} (hd : f.Pairwise fun g h => ∀ x ∈ g, x ∉ h) {k : Nat} (hk : k < f.length) {p : Pr} (hp : p ∈ f[k]) : f.findIdx (fun g => decide (p ∈ g)) = k := by
  have hle : f.findIdx (fun g => decide (p ∈ g)) ≤ k := by
    refine Nat.le_of_not_lt fun hlt => ?_
    have := List.not_of_lt_findIdx hlt
    simp [hp] at this
  rcases Nat.lt_or_eq_of_le hle with hlt | e
  · exfalso
    have hw : f.findIdx (fun g => decide (p ∈ g)) < f.length := by omega
    have h1 := List.findIdx_getElem (w := hw)
    have h1 := of_decide_eq_true h1
    exact (List.pairwise_iff_getElem.mp hd) _ _ hw hk hlt p h1 hp
  · exact e
theorem inO_bls {n : Nat} : ∀ bs : List Bool, inO (n + 1) (.bl true) (bs.map U.bl) = some (bs.any id)
  | [] => rfl
  | b :: bs => by
    show (eqO (n + 1) (.bl b) (.bl true)).bind (fun a => (inO (n + 1) (.bl true) (bs.map U.bl)).map fun c => a || c) = _
    rw [show eqO (n + 1) (.bl b) (.bl true) = some (b == true) from rfl, inO_bls bs]
    cases b <;> simp
theorem findIdx_bls {α : Type} {q : α → Bool} : ∀ l : List α, (l.map fun a => U.bl (q a)).findIdx (hitU (.bl true)) = l.findIdx q
  | [] => rfl
  | x :: l => by
    rw [List.map_cons, List.findIdx_cons, List.findIdx_cons, findIdx_bls l]
    have : hitU (.bl true) (.bl (q x)) = q x := by
      unfold hitU
      rw [show eqO dep (.bl (q x)) (.bl true) = some (q x == true) from rfl]
      cases q x <;> rfl
    rw [this]
theorem in_row {p : Pr} {g : List Pr} : inV2 (pairU p) (rowU' g) = some (.bl (decide (p ∈ g))) := by
  show (inO dep (pairU p) (g.map pairU)).map U.bl = _
  rw [show dep = 38 + 2 from rfl, inO_pairs]
  rfl
theorem web_ok {rs : List Row} : m_check_web (webU rs) = some .non := rfl
theorem zig_of {rs : List Row} (h : Web rs) (hl : rs.length ≤ 40) {ms : List Pr} (Z : Zs (linesT rs) (linesT rs) (zigs (linesT rs)) ms) {k : Nat} (hk : k < (zigs (linesT rs)).length) {p : Pr} (hp : p ∈ (zigs (linesT rs))[k]) : m_zigzag_of (webU rs) (.str p.1) (.str p.2) = some (.int k) := by
  have hlim : lim = 100000 := rfl
  have hll := linesT_len h.row_two
  have hpl : p ∈ linesT rs := (Z.zig _ (List.getElem_mem hk)).sub p hp
  have hn1 : p.1 ∈ names rs := h.src _ (by rw [← linesT_fst]; exact List.mem_map.mpr ⟨p, hpl, rfl⟩)
  have hn2 : p.2 ∈ names rs := by
    obtain ⟨r, hr, hp'⟩ := List.mem_flatMap.mp hpl
    obtain ⟨s, _, rfl⟩ := List.mem_map.mp hp'
    exact List.mem_map.mpr ⟨r, hr, rfl⟩
  have e1 : m_check_line (webU rs) (.str p.1) (.str p.2) = some .non := by
    unfold m_check_line
    rw [show callO (a2 m_check_copy) (consO (some (webU rs)) (consO (some (U.str p.1)) (some []))) = some .non from check_ok hn1, show callO (a2 m_check_copy) (consO (some (webU rs)) (consO (some (U.str p.2)) (some []))) = some .non from check_ok hn2, f_pairs]
    have : op2 notInV2 (tupO (consO (some (U.str p.1)) (consO (some (U.str p.2)) (some [])))) (some (U.tpd ((linesT rs).map pairU))) = some (.bl false) := by
      show (inO dep (pairU p) ((linesT rs).map pairU)).map (fun b => U.bl (!b)) = _
      rw [show dep = 38 + 2 from rfl, inO_pairs, decide_eq_true hpl]
      rfl
    rw [Option.bind_some, Option.bind_some, this]
    rfl
  have hzl : (zigs (linesT rs)).length ≤ 1000 := by
    have : (zigs (linesT rs)).length ≤ (linesT rs).length := by
      have hP := (flat_perm h.net Z).length_eq
      rw [← hP, List.length_flatten]
      have : ∀ f : List (List Pr), (∀ g ∈ f, g ≠ []) → f.length ≤ (f.map List.length).sum := by
        intro f
        induction f with
        | nil => intro _; simp
        | cons g f ih =>
          intro hf
          have h1 := List.length_pos_iff.mpr (hf g (List.mem_cons_self ..))
          have h2 := ih fun x hx => hf x (List.mem_cons_of_mem _ hx)
          rw [List.length_cons, List.map_cons, List.sum_cons]
          omega
      exact this _ fun g hg => (Z.zig g hg).ne
    omega
  unfold m_zigzag_of
  rw [show callO (a1 m_check_web) (consO (some (webU rs)) (some [])) = some .non from web_ok (rs := rs), Option.bind_some, show callO (a3 m_check_line) (consO (some (webU rs)) (consO (some (U.str p.1)) (consO (some (U.str p.2)) (some [])))) = some .non from e1, Option.bind_some]
  have e2 : callO (a1 m_all_rows) (consO (some (webU rs)) (some [])) = some (.tup (rowTs (zigs (linesT rs)))) := f_zigzag_rows (rs := rs)
  rw [e2]
  have e3 : compO (fun u18 => (some true)) (fun u18 => (op2 inV2 (tupO (consO (some (U.str p.1)) (consO (some (U.str p.2)) (some [])))) (some u18))) (iterO U.iter (some (U.tup (rowTs (zigs (linesT rs)))))) = some (.lst ((zigs (linesT rs)).map fun g => U.bl (decide (p ∈ g)))) := lcO_map (g := rowU') (h := fun g => U.bl (decide (p ∈ g))) _ (by omega) fun g _ => in_row
  rw [e3, op2_s]
  have e4 : inO dep (.bl true) ((zigs (linesT rs)).map fun g => U.bl (decide (p ∈ g))) = some true := by
    have := inO_bls (n := 39) ((zigs (linesT rs)).map fun g => decide (p ∈ g))
    rw [List.map_map] at this
    rw [show dep = 39 + 1 from rfl]
    refine this.trans ?_
    congr 1
    rw [List.any_eq_true]
    exact ⟨true, List.mem_map.mpr ⟨_, List.getElem_mem hk, by simpa using hp⟩, rfl⟩
  show (inO dep (.bl true) ((zigs (linesT rs)).map fun g => U.bl (decide (p ∈ g)))).bind (fun b => if b = true then some (U.int (((zigs (linesT rs)).map fun g => U.bl (decide (p ∈ g))).findIdx (hitU (.bl true)) : Nat)) else none) = _
  rw [e4, Option.bind_some, if_pos rfl, findIdx_bls, findIdx_row Z.dis hk hp]
theorem eq_ints2 {i : Int} : testO (op2 neV2 (lstO (consO (some (U.int i)) (consO (some (U.int i)) (some [])))) (lstO (consO (some (U.int i)) (consO (some (U.int i)) (some []))))) = some false := by
  refine ne_self (x := .lst [.int i, .int i]) ?_
  rw [show dep = 39 + 1 from rfl]
  refine eq_lstR fun x hx => ?_
  simp only [List.mem_cons, List.not_mem_nil, or_false, or_self] at hx
  subst hx
  show some (i == i) = _
  simp
theorem right_l4 {rs : List Row} (h : Web rs) (hl : rs.length ≤ 40) {ms : List Pr} (Z : Zs (linesT rs) (linesT rs) (zigs (linesT rs)) ms) {k : Nat} (hk : k < (zigs (linesT rs)).length) {u x y : U} {c : SM U} : ∀ (suf : List Pr), (∀ p ∈ suf, p ∈ (zigs (linesT rs))[k]) →
    m_law_right_l4 u (webU rs) x (.int k) (.lst (((linesT rs).filter fun p => !decide (p ∈ (zigs (linesT rs))[k])).map pairU)) c (suf.map pairU) = c
  | [], _ => rfl
  | p :: suf, hs => by
    have hlim : lim = 100000 := rfl
    have hll := linesT_len h.row_two
    have hp := hs p (List.mem_cons_self ..)
    have ih := right_l4 h hl Z hk (u := u) (x := x) (y := y) (c := c) suf fun q hq => hs q (List.mem_cons_of_mem _ hq)
    have e1 : compO (fun u302 => (testO (callO (a2 m_law_beside) (consO (some u302) (consO (some (pairU p)) (some [])))))) (fun u302 => (some u302)) (iterO U.iter (some (U.lst (((linesT rs).filter fun p => !decide (p ∈ (zigs (linesT rs))[k])).map pairU)))) = some (.lst []) := by
      have hM : ∀ q ∈ (linesT rs).filter (fun p => !decide (p ∈ (zigs (linesT rs))[k])), ¬ Bes q p := fun q hq hb => by
        have hq := List.mem_filter.mp hq
        have := (Z.zig _ (List.getElem_mem hk)).clo p hp q hq.1 hb
        simp [this] at hq
      have hMl : ((linesT rs).filter fun p => !decide (p ∈ (zigs (linesT rs))[k])).length ≤ lim := by
        have := List.length_filter_le (fun p => !decide (p ∈ (zigs (linesT rs))[k])) (linesT rs)
        omega
      generalize ((linesT rs).filter fun p => !decide (p ∈ (zigs (linesT rs))[k])) = M at hM hMl
      have := lcO_mf (p := fun u302 => (testO (callO (a2 m_law_beside) (consO (some u302) (consO (some (pairU p)) (some [])))))) (f := fun u302 => (some u302)) (g := pairU) (q := fun q => besB q p) (h := pairU) M hMl (fun q _ => by
        show testO (m_law_beside (pairU q) (pairU p)) = _
        rw [lbeside_ok]; rfl) (fun _ _ _ => rfl)
      rw [List.filter_eq_nil_iff.mpr (fun q hq hb => hM q hq (bes_iff.mp hb))] at this
      exact this
    have z1 : callO (a3 m_zigzag_of) (consO (some (webU rs)) (consO (op2 getV (some (pairU p)) (some (U.int 0))) (consO (op2 getV (some (pairU p)) (some (U.int 1))) (some [])))) = some (.int k) := zig_of h hl Z hk hp
    have z2 : callO (fun xs => if xs.length = 3 then (a3 m_zigzag_of) xs.reverse else none) (consO (op2 getV (some (pairU p)) (some (U.int 1))) (consO (op2 getV (some (pairU p)) (some (U.int 0))) (consO (some (webU rs)) (some [])))) = some (.int k) := zig_of h hl Z hk hp
    rw [List.map_cons]
    funext us
    show ifS (pureS (testO (op2 neV2 (compO (fun u302 => (testO (callO (a2 m_law_beside) (consO (some u302) (consO (some (pairU p)) (some [])))))) (fun u302 => (some u302)) (iterO U.iter (some (U.lst (((linesT rs).filter fun p => !decide (p ∈ (zigs (linesT rs))[k])).map pairU))))) (lstO (some []))))) (pureS (some (U.bl false))) (ifS (pureS (testO (op2 neV2 (lstO (consO (callO (a3 m_zigzag_of) (consO (some (webU rs)) (consO (op2 getV (some (pairU p)) (some (U.int 0))) (consO (op2 getV (some (pairU p)) (some (U.int 1))) (some []))))) (consO (callO (fun xs => if xs.length = 3 then (a3 m_zigzag_of) xs.reverse else none) (consO (op2 getV (some (pairU p)) (some (U.int 1))) (consO (op2 getV (some (pairU p)) (some (U.int 0))) (consO (some (webU rs)) (some []))))) (some [])))) (lstO (consO (some (U.int k)) (consO (some (U.int k)) (some []))))))) (pureS (some (U.bl false))) (m_law_right_l4 u (webU rs) x (.int k) (.lst (((linesT rs).filter fun p => !decide (p ∈ (zigs (linesT rs))[k])).map pairU)) c (suf.map pairU))) us = _
    rw [e1, ne_nilL, z1, z2, eq_ints2, ih]
    rfl
theorem right_l3 {rs : List Row} (h : Web rs) (hl : rs.length ≤ 40) {ms : List Pr} (Z : Zs (linesT rs) (linesT rs) (zigs (linesT rs)) ms) {c : SM U} : ∀ (suf pre : List (List Pr)), zigs (linesT rs) = pre ++ suf →
    m_law_right_l3 (webU rs) (.lst ((linesT rs).map pairU)) c (enumL pre.length (suf.map rowU')) = c
  | [], pre, _ => rfl
  | g :: suf, pre, e => by
    have hlim : lim = 100000 := rfl
    have hll := linesT_len h.row_two
    have ih := right_l3 h hl Z (c := c) suf (pre ++ [g]) (by rw [e]; simp)
    have hk : pre.length < (zigs (linesT rs)).length := by rw [e]; simp
    have hg : (zigs (linesT rs))[pre.length] = g := by simp [e]
    have e1 : compO (fun u250 => (testO (op2 notInV2 (some u250) (some (rowU' g))))) (fun u250 => (some u250)) (iterO U.iter (some (U.lst ((linesT rs).map pairU)))) = some (.lst (((linesT rs).filter fun p => !decide (p ∈ g)).map pairU)) :=
      lcO_mf (p := fun u250 => (testO (op2 notInV2 (some u250) (some (rowU' g))))) (f := fun u250 => (some u250)) (g := pairU) (q := fun p => !decide (p ∈ g)) (h := pairU) (linesT rs) (by omega) (fun p _ => by
        show testO ((inO dep (pairU p) (g.map pairU)).map fun b => U.bl (!b)) = _
        rw [show dep = 38 + 2 from rfl, inO_pairs]; rfl) (fun _ _ _ => rfl)
    have hl4 := right_l4 h hl Z hk (u := rowU' g) (x := .lst ((linesT rs).map pairU)) (y := .non) (c := c) g (by rw [hg]; exact fun p hp => hp)
    rw [hg] at hl4
    show (fun us => (unp2 (U.tup [.int pre.length, rowU' g])).bind fun ab => _) = _
    funext us
    show bindS (pureS (compO (fun u250 => (testO (op2 notInV2 (some u250) (some (rowU' g))))) (fun u250 => (some u250)) (iterO U.iter (some (U.lst ((linesT rs).map pairU)))))) (fun x253 => (withK (m_law_right_l3 (webU rs) (.lst ((linesT rs).map pairU)) c (enumL (pre.length + 1) (suf.map rowU'))) fun kL262 => (bindS (pureS (iterO U.iter (some (rowU' g)))) fun xs265 => m_law_right_l4 (rowU' g) (webU rs) (.lst ((linesT rs).map pairU)) (.int pre.length) x253 kL262 xs265))) us = _
    rw [e1, bindS_pure, withK_s]
    rw [show pre.length + 1 = (pre ++ [g]).length by simp, ih, show iterO U.iter (some (rowU' g)) = some (g.map pairU) from rfl, bindS_pure, hl4]

end K06
set_option Elab.async false
set_option linter.all false
set_option maxRecDepth 100000
set_option maxHeartbeats 2000000
namespace K06
open PySem L2 Dn
theorem unpS_t {α : Type} {a b : U} {k : U → U → SM α} : unpS (.tup [a, b]) k = k a b := rfl
theorem parS_s {α : Type} {x y : U} {k : U → U → SM α} : parS [x, y] k = k x y := rfl
theorem right_l1 {c : SM U} : ∀ (ns : List Nat) (u : U), Urn u → (∀ n ∈ ns, 0 < n ∧ n ≤ 40) → ∃ u', m_law_right_l1 c (ns.map fun n => U.int (n : Nat)) [u] = c [u'] ∧ Urn u'
  | [], u, hu, _ => ⟨u, rfl, hu⟩
  | n :: ns, u, hu, hn => by
    have hlim : lim = 100000 := rfl
    obtain ⟨h0, h1⟩ := hn n (List.mem_cons_self ..)
    obtain ⟨rs, u1, e1, hu1, hw, hlr⟩ := draw_rows (u := u) (t := []) (n := n) (d := 20) hu h0 (by omega)
    have hl : rs.length ≤ 40 := by omega
    have hll := linesT_len hw.row_two
    obtain ⟨u2, ih, hu2⟩ := right_l1 (c := c) ns u1 hu1 fun m hm => hn m (List.mem_cons_of_mem _ hm)
    refine ⟨u2, ?_, hu2⟩
    rw [← ih]
    obtain ⟨ms, Z⟩ := zigs_ok hw.net
    rw [List.map_cons]
    show bindS (bindS (consS (opS addV (pureS (some (U.int 1))) (bindS (pureS (consO (some (U.int n)) (some []))) fun xs => callM 0 (b1 m_law_draw) xs)) (consS (pureS (some (U.int 20))) (pureS (some [])))) fun xs => callM 0 (b2 m_law_rows) xs) _ [u] = _
    rw [bindS_s e1]
    have em : callO (mkF 0 m_Web_init) (consO (callO (a1 m_law_said) (consO (some (rowsV rs)) (some []))) (some [])) = some (webU rs) := by
      rw [show callO (a1 m_law_said) (consO (some (rowsV rs)) (some [])) = some (.str (textT rs)) from text_ok hw hl]
      exact make_ok hw hl
    have ep : callO (a1 m_law_pairs) (consO (some (rowsV rs)) (some [])) = some (.lst ((linesT rs).map pairU)) := pairs_ok hw hl
    have ez : callO (a1 m_zigzags) (consO (some (webU rs)) (some [])) = some (.tup (rowTs (zigs (linesT rs)))) := f_zigzag_rows (rs := rs)
    have ez2 : callO (fun xs => if xs.length = 1 then (a1 m_zigzags) xs.reverse else none) (consO (some (webU rs)) (some [])) = some (.tup (rowTs (zigs (linesT rs)))) := f_zigzag_rows (rs := rs)
    rw [em, ep]
    rw [show tupO (consO (some (webU rs)) (consO (some (U.lst ((linesT rs).map pairU))) (some []))) = some (.tup [webU rs, .lst ((linesT rs).map pairU)]) from rfl, bindS_pure]
    rw [unpS_t, ez, lstO0, consO_s, consO_s, bindS_pure, parS_s]
    have hfl := flat_perm hw.net Z
    have hzl : (zigs (linesT rs)).length ≤ 1000 := by
      have : (zigs (linesT rs)).length ≤ (linesT rs).length := by
        rw [← hfl.length_eq, List.length_flatten]
        have : ∀ f : List (List Pr), (∀ g ∈ f, g ≠ []) → f.length ≤ (f.map List.length).sum := by
          intro f
          induction f with
          | nil => intro _; simp
          | cons g f ih =>
            intro hf
            have h1 := List.length_pos_iff.mpr (hf g (List.mem_cons_self ..))
            have h2 := ih fun x hx => hf x (List.mem_cons_of_mem _ hx)
            rw [List.length_cons, List.map_cons, List.sum_cons]
            omega
        exact this _ fun g hg => (Z.zig g hg).ne
      omega
    have ew : compO (fun u79 => (notO (testO (callO (a2 m_law_row_right) (consO (some u79) (consO (some (U.lst ((linesT rs).map pairU))) (some []))))))) (fun u79 => (some u79)) (iterO U.iter (some (U.tup (rowTs (zigs (linesT rs)))))) = some (.lst []) := by
      have := lcO_mf (p := fun u79 => (notO (testO (callO (a2 m_law_row_right) (consO (some u79) (consO (some (U.lst ((linesT rs).map pairU))) (some []))))))) (f := fun u79 => (some u79)) (g := rowU') (q := fun _ => false) (h := rowU') (zigs (linesT rs)) (by omega) (fun g hg => by
        obtain ⟨_, t⟩ := Z.told g hg
        show notO (testO (m_law_row_right (.tup (g.map pairU)) (.lst ((linesT rs).map pairU)))) = _
        rw [row_right hw.net (by omega) (Z.zig g hg) t]
        rfl) (fun _ _ hf => by cases hf)
      rw [List.filter_eq_nil_iff.mpr (fun _ _ h => by cases h)] at this
      exact this
    rw [ew, bindS_pure, ez2, show testO (op2 neV2 (some (U.lst [])) (some (U.lst []))) = some false from rfl]
    have er : testO (op2 neV2 (some (U.tup (rowTs (zigs (linesT rs))))) (some (U.tup (rowTs (zigs (linesT rs)))))) = some false := by
      refine ne_self ?_
      rw [show dep = 39 + 1 from rfl]
      refine eq_tupR fun x hx => ?_
      obtain ⟨g, _, rfl⟩ := List.mem_map.mp hx
      rw [show (39 : Nat) = 38 + 1 from rfl]
      exact eq_tupR (eq_pairs (n := 36))
    rw [er, show orO (some false) (some false) = some false from rfl, ifS_p, if_neg Bool.false_ne_true, withK_s, show iterO U.iter (some (U.tup (rowTs (zigs (linesT rs))))) = some ((zigs (linesT rs)).map rowU') from rfl, bindS_pure]
    have hf1 : ([] : List Pr).length + (zigs (linesT rs)).flatten.length ≤ 1000 := by
      rw [hfl.length_eq]
      simp
      omega
    rw [show U.lst [] = U.lst (([] : List Pr).map pairU) from rfl, right_l2 _ [] hf1, List.nil_append]
    have ef := firsts_ok (by omega) hzl Z
    rw [show iterO U.iter (some (U.tup (rowTs (zigs (linesT rs))))) = some ((zigs (linesT rs)).map rowU') from rfl] at ef
    rw [ef, bindS_pure, sorted_pairs, sorted_pairs, sort_perm hfl, sorted_ints (firsts_asc Z)]
    have en : testO (op2 neV2 (some (U.lst (((zigs (linesT rs)).map (mp (linesT rs))).map U.int))) (some (U.lst (((zigs (linesT rs)).map (mp (linesT rs))).map U.int)))) = some false := by
      refine ne_self ?_
      rw [show dep = 39 + 1 from rfl]
      refine eq_lstR fun x hx => ?_
      obtain ⟨i, _, rfl⟩ := List.mem_map.mp hx
      show some (i == i) = _
      simp
    have es : testO (op2 neV2 (some (U.lst (sortL ((linesT rs).map pairU)))) (some (U.lst (sortL ((linesT rs).map pairU))))) = some false := by
      refine ne_self ?_
      rw [show dep = 39 + 1 from rfl]
      refine eq_lstR fun x hx => ?_
      exact eq_pairs (n := 37) (l := linesT rs) x ((List.mergeSort_perm _ _).mem_iff.mp hx)
    rw [en, es, show orO (some false) (some false) = some false from rfl, ifS_p, if_neg Bool.false_ne_true, withK_s]
    rw [show enumO (some (U.tup (rowTs (zigs (linesT rs))))) = some (enumL ([] : List (List Pr)).length ((zigs (linesT rs)).map rowU')) from rfl, bindS_pure, right_l3 hw hl Z (zigs (linesT rs)) [] (List.nil_append _).symm]
theorem right_ok {u : U} (hu : Urn u) : ∃ u', b0 m_law_right u [] = some (.bl true, u') := by
  show ∃ u', finS (m_law_right [u]) = _
  unfold m_law_right
  obtain ⟨u', e, hu'⟩ := right_l1 (c := pureS (some (U.bl true))) [4, 9, 20, 40] u hu (by decide)
  rw [withK_s]
  refine ⟨u', ?_⟩
  have e2 : bindS (pureS (iterO U.iter (lstO (consO (some (U.int 4)) (consO (some (U.int 9)) (consO (some (U.int 20)) (consO (some (U.int 40)) (some [])))))))) (fun xs4 => m_law_right_l1 (pureS (some (U.bl true))) xs4) [u] = pureS (some (U.bl true)) [u'] := e
  rw [e2]
  simp [finS, hu'.own]

end K06
set_option Elab.async false
set_option linter.all false
set_option maxRecDepth 100000
set_option maxHeartbeats 2000000
namespace K06
open PySem L2 Dn
theorem maths (ns : List Int) (hl : ns.length ≤ 63) : m_law (.frl (ns.map U.int)) = some (.bl true) := by
  have el : callO lenV (consO (some (U.frl (ns.map U.int))) (some [])) = some (.int ns.length) := by simp [lenV]
  obtain ⟨m, em, hm⟩ : ∃ m : Nat, rngO rng1 (consO (callO maxA (consO (some (U.int 2)) (consO (callO minU (consO (callO lenV (consO (some (U.frl (ns.map U.int))) (some []))) (consO (some (U.int 4)) (some [])))) (some [])))) (some [])) = some (rangeU 0 m) ∧ m ≤ 1000 := by
    rw [el]
    have e1 : callO minU (consO (some (U.int ns.length)) (consO (some (U.int 4)) (some []))) = some (.int (if (4 : Int) < ns.length then 4 else ns.length)) := rfl
    rw [e1]
    generalize hq : (if (4 : Int) < ns.length then (4 : Int) else ns.length) = q
    have hq5 : q ≤ 5 ∧ 0 ≤ q := by subst hq; split <;> omega
    have e2 : callO maxA (consO (some (U.int 2)) (consO (some (U.int q)) (some []))) = some (.int (if q > 2 then q else 2)) := rfl
    rw [e2]
    generalize hz : (if q > 2 then q else 2) = z
    have hz5 : z ≤ 5 ∧ 0 ≤ z := by subst hz; split <;> omega
    refine ⟨z.toNat, ?_, by omega⟩
    show (if z ≤ 100000 ∧ -100000 ≤ z then some (rangeU 0 z.toNat) else none) = _
    rw [if_pos (by omega)]
  have hlim : lim = 100000 := rfl
  have hrl : (rangeU 0 m).length = m := by simp [rangeU]
  have hc : lcSL (fun u4 => (pureS (some true))) (fun u4 => (callF (b0 m_law_right) (callS (a2 m_law_purse) (pureS (consO (some (U.frl (ns.map U.int))) (consO (some u4) (some []))))) (pureS (some [])))) (rangeU 0 m) [] = some ((rangeU 0 m).map fun _ => U.bl true, []) := by
    refine lcSL_const (fun x us => rfl) (rangeU 0 m) [] fun x hx => ?_
    obtain ⟨i, hi, rfl⟩ := List.mem_map.mp hx
    rw [Int.zero_add]
    obtain ⟨u, eu, hu⟩ := purse_ok (t := i) hl
    obtain ⟨u', er⟩ := right_ok hu
    have e1 : callS (a2 m_law_purse) (pureS (consO (some (U.frl (ns.map U.int))) (consO (some (U.int i)) (some [])))) [] = some (u, []) := by
      show (m_law_purse (.frl (ns.map U.int)) (.int i)).map (fun x => (x, ([] : List U))) = _
      rw [eu]; rfl
    unfold callF
    rw [bindS_s e1, bindS_pure, er]
    rfl
  have e2 : m_lawS (.frl (ns.map U.int)) [] = some (.bl true, []) := by
    unfold m_lawS
    rw [em]
    have e3 : lcS (fun u4 => (pureS (some true))) (fun u4 => (callF (b0 m_law_right) (callS (a2 m_law_purse) (pureS (consO (some (U.frl (ns.map U.int))) (consO (some u4) (some []))))) (pureS (some [])))) (pureS (some (rangeU 0 m))) [] = some (.frl ((rangeU 0 m).map fun _ => U.bl true), []) := by
      unfold lcS
      rw [bindS_pure, if_pos (by omega), bindS_s hc]
      rfl
    have e4 : keepN (lcS (fun u4 => (pureS (some true))) (fun u4 => (callF (b0 m_law_right) (callS (a2 m_law_purse) (pureS (consO (some (U.frl (ns.map U.int))) (consO (some u4) (some []))))) (pureS (some [])))) (pureS (some (rangeU 0 m)))) [] = some (.lst ((rangeU 0 m).map fun _ => U.bl true), []) := by
      unfold keepN
      rw [bindS_s e3]
      rfl
    rw [callS_s (consS_s e4 rfl), all_map (p := fun _ => true)]
    simp
  show (m_lawS (.frl (ns.map U.int)) []).map Prod.fst = _
  rw [e2]
  rfl

end K06
set_option Elab.async false
set_option linter.all false
set_option maxRecDepth 100000
set_option maxHeartbeats 4000000
namespace K06
open PySem L2 Dn
/-! the end -/
theorem all_mk {l : PySem.W.OpenLaw} {w : World} {K : PySem.W.Frag} {h : Heap} {mg : Str → Option Value} {fa : Addr} {C0 : Addr} (X : K.In h) (G : h.Ns mainGlobals mg) (hfa : mg "law" = some (.ref fa))
    {f2 : Addr} {od2 an2 : Option Addr} {sl2 : Array (Option Value)} {oc2 kV2 dc2 pm2 cd2 ct2 : Value}
    {f3 : Addr} {od3 an3 : Option Addr} {sl3 : Array (Option Value)} {oc3 kV3 dc3 pm3 cd3 ct3 : Value}
    {f4 : Addr} {od4 an4 : Option Addr} {sl4 : Array (Option Value)} {oc4 kV4 dc4 pm4 cd4 ct4 : Value}
    {f5 : Addr} {od5 an5 : Option Addr} {sl5 : Array (Option Value)} {oc5 kV5 dc5 pm5 cd5 ct5 : Value}
    {f6 : Addr} {od6 an6 : Option Addr} {sl6 : Array (Option Value)} {oc6 kV6 dc6 pm6 cd6 ct6 : Value}
    {f15 : Addr} {od15 an15 : Option Addr} {sl15 : Array (Option Value)} {oc15 kV15 dc15 pm15 cd15 ct15 : Value}
    {f17 : Addr} {od17 an17 : Option Addr} {sl17 : Array (Option Value)} {oc17 kV17 dc17 pm17 cd17 ct17 : Value}
    {f18 : Addr} {od18 an18 : Option Addr} {sl18 : Array (Option Value)} {oc18 kV18 dc18 pm18 cd18 ct18 : Value}
    {f1000 : Addr} {od1000 an1000 : Option Addr} {sl1000 : Array (Option Value)} {oc1000 kV1000 dc1000 pm1000 cd1000 ct1000 : Value}
    {f20 : Addr} {od20 an20 : Option Addr} {sl20 : Array (Option Value)} {oc20 kV20 dc20 pm20 cd20 ct20 : Value}
    {f21 : Addr} {od21 an21 : Option Addr} {sl21 : Array (Option Value)} {oc21 kV21 dc21 pm21 cd21 ct21 : Value}
    {f1001 : Addr} {od1001 an1001 : Option Addr} {sl1001 : Array (Option Value)} {oc1001 kV1001 dc1001 pm1001 cd1001 ct1001 : Value}
    {p1001 : Addr} {rs1001 : List Value}
    {f1002 : Addr} {od1002 an1002 : Option Addr} {sl1002 : Array (Option Value)} {oc1002 kV1002 dc1002 pm1002 cd1002 ct1002 : Value}
    {p1002 : Addr} {rs1002 : List Value}
    {f1003 : Addr} {od1003 an1003 : Option Addr} {sl1003 : Array (Option Value)} {oc1003 kV1003 dc1003 pm1003 cd1003 ct1003 : Value}
    {p1003 : Addr} {rs1003 : List Value}
    {f1005 : Addr} {od1005 an1005 : Option Addr} {sl1005 : Array (Option Value)} {oc1005 kV1005 dc1005 pm1005 cd1005 ct1005 : Value}
    {f1006 : Addr} {od1006 an1006 : Option Addr} {sl1006 : Array (Option Value)} {oc1006 kV1006 dc1006 pm1006 cd1006 ct1006 : Value}
    {f1009 : Addr} {od1009 an1009 : Option Addr} {sl1009 : Array (Option Value)} {oc1009 kV1009 dc1009 pm1009 cd1009 ct1009 : Value}
    {f1010 : Addr} {od1010 an1010 : Option Addr} {sl1010 : Array (Option Value)} {oc1010 kV1010 dc1010 pm1010 cd1010 ct1010 : Value}
    {f1011 : Addr} {od1011 an1011 : Option Addr} {sl1011 : Array (Option Value)} {oc1011 kV1011 dc1011 pm1011 cd1011 ct1011 : Value}
    {f22 : Addr} {od22 an22 : Option Addr} {sl22 : Array (Option Value)} {oc22 kV22 dc22 pm22 cd22 ct22 : Value}
    {f24 : Addr} {od24 an24 : Option Addr} {sl24 : Array (Option Value)} {oc24 kV24 dc24 pm24 cd24 ct24 : Value}
    {f25 : Addr} {od25 an25 : Option Addr} {sl25 : Array (Option Value)} {oc25 kV25 dc25 pm25 cd25 ct25 : Value}
    {f26 : Addr} {od26 an26 : Option Addr} {sl26 : Array (Option Value)} {oc26 kV26 dc26 pm26 cd26 ct26 : Value}
    {f28 : Addr} {od28 an28 : Option Addr} {sl28 : Array (Option Value)} {oc28 kV28 dc28 pm28 cd28 ct28 : Value}
    {f29 : Addr} {od29 an29 : Option Addr} {sl29 : Array (Option Value)} {oc29 kV29 dc29 pm29 cd29 ct29 : Value}
    {f30 : Addr} {od30 an30 : Option Addr} {sl30 : Array (Option Value)} {oc30 kV30 dc30 pm30 cd30 ct30 : Value}
    {f31 : Addr} {od31 an31 : Option Addr} {sl31 : Array (Option Value)} {oc31 kV31 dc31 pm31 cd31 ct31 : Value}
    {f32 : Addr} {od32 an32 : Option Addr} {sl32 : Array (Option Value)} {oc32 kV32 dc32 pm32 cd32 ct32 : Value}
    {f33 : Addr} {od33 an33 : Option Addr} {sl33 : Array (Option Value)} {oc33 kV33 dc33 pm33 cd33 ct33 : Value}
    {f34 : Addr} {od34 an34 : Option Addr} {sl34 : Array (Option Value)} {oc34 kV34 dc34 pm34 cd34 ct34 : Value}
    {f35 : Addr} {od35 an35 : Option Addr} {sl35 : Array (Option Value)} {oc35 kV35 dc35 pm35 cd35 ct35 : Value}
    {f36 : Addr} {od36 an36 : Option Addr} {sl36 : Array (Option Value)} {oc36 kV36 dc36 pm36 cd36 ct36 : Value}
    {f37 : Addr} {od37 an37 : Option Addr} {sl37 : Array (Option Value)} {oc37 kV37 dc37 pm37 cd37 ct37 : Value}
    {f38 : Addr} {od38 an38 : Option Addr} {sl38 : Array (Option Value)} {oc38 kV38 dc38 pm38 cd38 ct38 : Value}
    {tk_LETTERS : Tok}
    {tk_MOST_COPIES : Tok}
    (aC0 : PySem.W.nsIn K mainGlobals "Web" = some (some (.ref C0)))
    (pg0 : PySem.W.plainGet K C0 Str.empty = true)
    (hd0 : PySem.W.hasDictIn K C0 = true)
    (po0 : PySem.W.plainOver K C0 = true)
    (sa0 : PySem.W.findIn K (.ref C0) "__setattr__" = some (some (.builtin "object.__setattr__")))
    (mk0 : PySem.W.makesIn K C0 = true)
    (kc0 : PySem.W.keepIn K (.ref C0) = true)
    (a2 : PySem.W.nsIn K mainGlobals "are_beside" = some (some (.ref f2)))
    (l2 : K.lookup f2 = some ⟨oc2, od2, .func (PySem.W.fnOf "are_beside" "are_beside" (defArgs s_are_beside) (defBody s_are_beside) (defScope s_are_beside) .none kV2 dc2 pm2 an2 cd2 ct2), sl2⟩)
    (c2 : PySem.W.codeIn K cd2 "are_beside" = true)
    (k2 : PySem.W.keepIn K (.ref f2) = true)
    (a3 : PySem.W.nsIn K mainGlobals "walk_from" = some (some (.ref f3)))
    (l3 : K.lookup f3 = some ⟨oc3, od3, .func (PySem.W.fnOf "walk_from" "walk_from" (defArgs s_walk_from) (defBody s_walk_from) (defScope s_walk_from) .none kV3 dc3 pm3 an3 cd3 ct3), sl3⟩)
    (c3 : PySem.W.codeIn K cd3 "walk_from" = true)
    (k3 : PySem.W.keepIn K (.ref f3) = true)
    (a4 : PySem.W.nsIn K mainGlobals "is_closed" = some (some (.ref f4)))
    (l4 : K.lookup f4 = some ⟨oc4, od4, .func (PySem.W.fnOf "is_closed" "is_closed" (defArgs s_is_closed) (defBody s_is_closed) (defScope s_is_closed) .none kV4 dc4 pm4 an4 cd4 ct4), sl4⟩)
    (c4 : PySem.W.codeIn K cd4 "is_closed" = true)
    (k4 : PySem.W.keepIn K (.ref f4) = true)
    (a5 : PySem.W.nsIn K mainGlobals "row_of" = some (some (.ref f5)))
    (l5 : K.lookup f5 = some ⟨oc5, od5, .func (PySem.W.fnOf "row_of" "row_of" (defArgs s_row_of) (defBody s_row_of) (defScope s_row_of) .none kV5 dc5 pm5 an5 cd5 ct5), sl5⟩)
    (c5 : PySem.W.codeIn K cd5 "row_of" = true)
    (k5 : PySem.W.keepIn K (.ref f5) = true)
    (a6 : PySem.W.nsIn K mainGlobals "rows_in" = some (some (.ref f6)))
    (l6 : K.lookup f6 = some ⟨oc6, od6, .func (PySem.W.fnOf "rows_in" "rows_in" (defArgs s_rows_in) (defBody s_rows_in) (defScope s_rows_in) .none kV6 dc6 pm6 an6 cd6 ct6), sl6⟩)
    (c6 : PySem.W.codeIn K cd6 "rows_in" = true)
    (k6 : PySem.W.keepIn K (.ref f6) = true)
    (a15 : PySem.W.nsIn K mainGlobals "is_name" = some (some (.ref f15)))
    (l15 : K.lookup f15 = some ⟨oc15, od15, .func (PySem.W.fnOf "is_name" "is_name" (defArgs s_is_name) (defBody s_is_name) (defScope s_is_name) .none kV15 dc15 pm15 an15 cd15 ct15), sl15⟩)
    (c15 : PySem.W.codeIn K cd15 "is_name" = true)
    (k15 : PySem.W.keepIn K (.ref f15) = true)
    (a17 : PySem.W.nsIn K mainGlobals "are_sources" = some (some (.ref f17)))
    (l17 : K.lookup f17 = some ⟨oc17, od17, .func (PySem.W.fnOf "are_sources" "are_sources" (defArgs s_are_sources) (defBody s_are_sources) (defScope s_are_sources) .none kV17 dc17 pm17 an17 cd17 ct17), sl17⟩)
    (c17 : PySem.W.codeIn K cd17 "are_sources" = true)
    (k17 : PySem.W.keepIn K (.ref f17) = true)
    (a18 : PySem.W.nsIn K mainGlobals "web_in" = some (some (.ref f18)))
    (l18 : K.lookup f18 = some ⟨oc18, od18, .func (PySem.W.fnOf "web_in" "web_in" (defArgs s_web_in) (defBody s_web_in) (defScope s_web_in) .none kV18 dc18 pm18 an18 cd18 ct18), sl18⟩)
    (c18 : PySem.W.codeIn K cd18 "web_in" = true)
    (k18 : PySem.W.keepIn K (.ref f18) = true)
    (a1000 : PySem.W.findIn K (.ref C0) "__init__" = some (some (.ref f1000)))
    (i1000 : PySem.W.isFn K (.ref f1000) = true)
    (l1000 : K.lookup f1000 = some ⟨oc1000, od1000, .func (PySem.W.fnOf "__init__" "Web.__init__" (defArgs s_Web___init__) (defBody s_Web___init__) (defScope s_Web___init__) .none kV1000 dc1000 pm1000 an1000 cd1000 ct1000), sl1000⟩)
    (c1000 : PySem.W.codeIn K cd1000 "Web.__init__" = true)
    (k1000 : PySem.W.keepIn K (.ref f1000) = true)
    (a20 : PySem.W.nsIn K mainGlobals "check_web" = some (some (.ref f20)))
    (l20 : K.lookup f20 = some ⟨oc20, od20, .func (PySem.W.fnOf "check_web" "check_web" (defArgs s_check_web) (defBody s_check_web) (defScope s_check_web) .none kV20 dc20 pm20 an20 cd20 ct20), sl20⟩)
    (c20 : PySem.W.codeIn K cd20 "check_web" = true)
    (k20 : PySem.W.keepIn K (.ref f20) = true)
    (a21 : PySem.W.nsIn K mainGlobals "check_copy" = some (some (.ref f21)))
    (l21 : K.lookup f21 = some ⟨oc21, od21, .func (PySem.W.fnOf "check_copy" "check_copy" (defArgs s_check_copy) (defBody s_check_copy) (defScope s_check_copy) .none kV21 dc21 pm21 an21 cd21 ct21), sl21⟩)
    (c21 : PySem.W.codeIn K cd21 "check_copy" = true)
    (k21 : PySem.W.keepIn K (.ref f21) = true)
    (ap1001 : PySem.W.findIn K (.ref C0) "text" = some (some (.ref p1001)))
    (gp1001 : PySem.W.specialIn K (.ref p1001) "__get__" = some (some (.builtin "property.__get__")))
    (tp1001 : PySem.W.takesIn K (.ref p1001) = some true)
    (rp1001 : PySem.W.recIn K p1001 "property" = some (.ref f1001 :: rs1001))
    (l1001 : K.lookup f1001 = some ⟨oc1001, od1001, .func (PySem.W.fnOf "text" "Web.text" (defArgs s_Web_text) (defBody s_Web_text) (defScope s_Web_text) .none kV1001 dc1001 pm1001 an1001 cd1001 ct1001), sl1001⟩)
    (c1001 : PySem.W.codeIn K cd1001 "Web.text" = true)
    (k1001 : PySem.W.keepIn K (.ref f1001) = true)
    (ap1002 : PySem.W.findIn K (.ref C0) "names" = some (some (.ref p1002)))
    (gp1002 : PySem.W.specialIn K (.ref p1002) "__get__" = some (some (.builtin "property.__get__")))
    (tp1002 : PySem.W.takesIn K (.ref p1002) = some true)
    (rp1002 : PySem.W.recIn K p1002 "property" = some (.ref f1002 :: rs1002))
    (l1002 : K.lookup f1002 = some ⟨oc1002, od1002, .func (PySem.W.fnOf "names" "Web.names" (defArgs s_Web_names) (defBody s_Web_names) (defScope s_Web_names) .none kV1002 dc1002 pm1002 an1002 cd1002 ct1002), sl1002⟩)
    (c1002 : PySem.W.codeIn K cd1002 "Web.names" = true)
    (k1002 : PySem.W.keepIn K (.ref f1002) = true)
    (ap1003 : PySem.W.findIn K (.ref C0) "lines" = some (some (.ref p1003)))
    (gp1003 : PySem.W.specialIn K (.ref p1003) "__get__" = some (some (.builtin "property.__get__")))
    (tp1003 : PySem.W.takesIn K (.ref p1003) = some true)
    (rp1003 : PySem.W.recIn K p1003 "property" = some (.ref f1003 :: rs1003))
    (l1003 : K.lookup f1003 = some ⟨oc1003, od1003, .func (PySem.W.fnOf "lines" "Web.lines" (defArgs s_Web_lines) (defBody s_Web_lines) (defScope s_Web_lines) .none kV1003 dc1003 pm1003 an1003 cd1003 ct1003), sl1003⟩)
    (c1003 : PySem.W.codeIn K cd1003 "Web.lines" = true)
    (k1003 : PySem.W.keepIn K (.ref f1003) = true)
    (a1005 : PySem.W.findIn K (.ref C0) "sources" = some (some (.ref f1005)))
    (i1005 : PySem.W.isFn K (.ref f1005) = true)
    (l1005 : K.lookup f1005 = some ⟨oc1005, od1005, .func (PySem.W.fnOf "sources" "Web.sources" (defArgs s_Web_sources) (defBody s_Web_sources) (defScope s_Web_sources) .none kV1005 dc1005 pm1005 an1005 cd1005 ct1005), sl1005⟩)
    (c1005 : PySem.W.codeIn K cd1005 "Web.sources" = true)
    (k1005 : PySem.W.keepIn K (.ref f1005) = true)
    (a1006 : PySem.W.findIn K (.ref C0) "copies" = some (some (.ref f1006)))
    (i1006 : PySem.W.isFn K (.ref f1006) = true)
    (l1006 : K.lookup f1006 = some ⟨oc1006, od1006, .func (PySem.W.fnOf "copies" "Web.copies" (defArgs s_Web_copies) (defBody s_Web_copies) (defScope s_Web_copies) .none kV1006 dc1006 pm1006 an1006 cd1006 ct1006), sl1006⟩)
    (c1006 : PySem.W.codeIn K cd1006 "Web.copies" = true)
    (k1006 : PySem.W.keepIn K (.ref f1006) = true)
    (a1009 : PySem.W.findIn K (.ref C0) "__str__" = some (some (.ref f1009)))
    (i1009 : PySem.W.isFn K (.ref f1009) = true)
    (l1009 : K.lookup f1009 = some ⟨oc1009, od1009, .func (PySem.W.fnOf "__str__" "Web.__str__" (defArgs s_Web___str__) (defBody s_Web___str__) (defScope s_Web___str__) .none kV1009 dc1009 pm1009 an1009 cd1009 ct1009), sl1009⟩)
    (c1009 : PySem.W.codeIn K cd1009 "Web.__str__" = true)
    (k1009 : PySem.W.keepIn K (.ref f1009) = true)
    (a1010 : PySem.W.findIn K (.ref C0) "__repr__" = some (some (.ref f1010)))
    (i1010 : PySem.W.isFn K (.ref f1010) = true)
    (l1010 : K.lookup f1010 = some ⟨oc1010, od1010, .func (PySem.W.fnOf "__repr__" "Web.__repr__" (defArgs s_Web___repr__) (defBody s_Web___repr__) (defScope s_Web___repr__) .none kV1010 dc1010 pm1010 an1010 cd1010 ct1010), sl1010⟩)
    (c1010 : PySem.W.codeIn K cd1010 "Web.__repr__" = true)
    (k1010 : PySem.W.keepIn K (.ref f1010) = true)
    (a1011 : PySem.W.findIn K (.ref C0) "__eq__" = some (some (.ref f1011)))
    (i1011 : PySem.W.isFn K (.ref f1011) = true)
    (l1011 : K.lookup f1011 = some ⟨oc1011, od1011, .func (PySem.W.fnOf "__eq__" "Web.__eq__" (defArgs s_Web___eq__) (defBody s_Web___eq__) (defScope s_Web___eq__) .none kV1011 dc1011 pm1011 an1011 cd1011 ct1011), sl1011⟩)
    (c1011 : PySem.W.codeIn K cd1011 "Web.__eq__" = true)
    (k1011 : PySem.W.keepIn K (.ref f1011) = true)
    (a22 : PySem.W.nsIn K mainGlobals "check_line" = some (some (.ref f22)))
    (l22 : K.lookup f22 = some ⟨oc22, od22, .func (PySem.W.fnOf "check_line" "check_line" (defArgs s_check_line) (defBody s_check_line) (defScope s_check_line) .none kV22 dc22 pm22 an22 cd22 ct22), sl22⟩)
    (c22 : PySem.W.codeIn K cd22 "check_line" = true)
    (k22 : PySem.W.keepIn K (.ref f22) = true)
    (a24 : PySem.W.nsIn K mainGlobals "all_rows" = some (some (.ref f24)))
    (l24 : K.lookup f24 = some ⟨oc24, od24, .func (PySem.W.fnOf "all_rows" "all_rows" (defArgs s_all_rows) (defBody s_all_rows) (defScope s_all_rows) .none kV24 dc24 pm24 an24 cd24 ct24), sl24⟩)
    (c24 : PySem.W.codeIn K cd24 "all_rows" = true)
    (k24 : PySem.W.keepIn K (.ref f24) = true)
    (a25 : PySem.W.nsIn K mainGlobals "zigzags" = some (some (.ref f25)))
    (l25 : K.lookup f25 = some ⟨oc25, od25, .func (PySem.W.fnOf "zigzags" "zigzags" (defArgs s_zigzags) (defBody s_zigzags) (defScope s_zigzags) .none kV25 dc25 pm25 an25 cd25 ct25), sl25⟩)
    (c25 : PySem.W.codeIn K cd25 "zigzags" = true)
    (k25 : PySem.W.keepIn K (.ref f25) = true)
    (a26 : PySem.W.nsIn K mainGlobals "zigzag_of" = some (some (.ref f26)))
    (l26 : K.lookup f26 = some ⟨oc26, od26, .func (PySem.W.fnOf "zigzag_of" "zigzag_of" (defArgs s_zigzag_of) (defBody s_zigzag_of) (defScope s_zigzag_of) .none kV26 dc26 pm26 an26 cd26 ct26), sl26⟩)
    (c26 : PySem.W.codeIn K cd26 "zigzag_of" = true)
    (k26 : PySem.W.keepIn K (.ref f26) = true)
    (a28 : PySem.W.nsIn K mainGlobals "_law_purse" = some (some (.ref f28)))
    (l28 : K.lookup f28 = some ⟨oc28, od28, .func (PySem.W.fnOf "_law_purse" "_law_purse" (defArgs s_law_purse) (defBody s_law_purse) (defScope s_law_purse) .none kV28 dc28 pm28 an28 cd28 ct28), sl28⟩)
    (c28 : PySem.W.codeIn K cd28 "_law_purse" = true)
    (k28 : PySem.W.keepIn K (.ref f28) = true)
    (a29 : PySem.W.nsIn K mainGlobals "_law_draw" = some (some (.ref f29)))
    (l29 : K.lookup f29 = some ⟨oc29, od29, .func (PySem.W.fnOf "_law_draw" "_law_draw" (defArgs s_law_draw) (defBody s_law_draw) (defScope s_law_draw) .none kV29 dc29 pm29 an29 cd29 ct29), sl29⟩)
    (c29 : PySem.W.codeIn K cd29 "_law_draw" = true)
    (k29 : PySem.W.keepIn K (.ref f29) = true)
    (a30 : PySem.W.nsIn K mainGlobals "_law_pick" = some (some (.ref f30)))
    (l30 : K.lookup f30 = some ⟨oc30, od30, .func (PySem.W.fnOf "_law_pick" "_law_pick" (defArgs s_law_pick) (defBody s_law_pick) (defScope s_law_pick) .none kV30 dc30 pm30 an30 cd30 ct30), sl30⟩)
    (c30 : PySem.W.codeIn K cd30 "_law_pick" = true)
    (k30 : PySem.W.keepIn K (.ref f30) = true)
    (a31 : PySem.W.nsIn K mainGlobals "_law_labels" = some (some (.ref f31)))
    (l31 : K.lookup f31 = some ⟨oc31, od31, .func (PySem.W.fnOf "_law_labels" "_law_labels" (defArgs s_law_labels) (defBody s_law_labels) (defScope s_law_labels) .none kV31 dc31 pm31 an31 cd31 ct31), sl31⟩)
    (c31 : PySem.W.codeIn K cd31 "_law_labels" = true)
    (k31 : PySem.W.keepIn K (.ref f31) = true)
    (a32 : PySem.W.nsIn K mainGlobals "_law_rows" = some (some (.ref f32)))
    (l32 : K.lookup f32 = some ⟨oc32, od32, .func (PySem.W.fnOf "_law_rows" "_law_rows" (defArgs s_law_rows) (defBody s_law_rows) (defScope s_law_rows) .none kV32 dc32 pm32 an32 cd32 ct32), sl32⟩)
    (c32 : PySem.W.codeIn K cd32 "_law_rows" = true)
    (k32 : PySem.W.keepIn K (.ref f32) = true)
    (a33 : PySem.W.nsIn K mainGlobals "_law_said" = some (some (.ref f33)))
    (l33 : K.lookup f33 = some ⟨oc33, od33, .func (PySem.W.fnOf "_law_said" "_law_said" (defArgs s_law_said) (defBody s_law_said) (defScope s_law_said) .none kV33 dc33 pm33 an33 cd33 ct33), sl33⟩)
    (c33 : PySem.W.codeIn K cd33 "_law_said" = true)
    (k33 : PySem.W.keepIn K (.ref f33) = true)
    (a34 : PySem.W.nsIn K mainGlobals "_law_pairs" = some (some (.ref f34)))
    (l34 : K.lookup f34 = some ⟨oc34, od34, .func (PySem.W.fnOf "_law_pairs" "_law_pairs" (defArgs s_law_pairs) (defBody s_law_pairs) (defScope s_law_pairs) .none kV34 dc34 pm34 an34 cd34 ct34), sl34⟩)
    (c34 : PySem.W.codeIn K cd34 "_law_pairs" = true)
    (k34 : PySem.W.keepIn K (.ref f34) = true)
    (a35 : PySem.W.nsIn K mainGlobals "_law_beside" = some (some (.ref f35)))
    (l35 : K.lookup f35 = some ⟨oc35, od35, .func (PySem.W.fnOf "_law_beside" "_law_beside" (defArgs s_law_beside) (defBody s_law_beside) (defScope s_law_beside) .none kV35 dc35 pm35 an35 cd35 ct35), sl35⟩)
    (c35 : PySem.W.codeIn K cd35 "_law_beside" = true)
    (k35 : PySem.W.keepIn K (.ref f35) = true)
    (a36 : PySem.W.nsIn K mainGlobals "_law_row_right" = some (some (.ref f36)))
    (l36 : K.lookup f36 = some ⟨oc36, od36, .func (PySem.W.fnOf "_law_row_right" "_law_row_right" (defArgs s_law_row_right) (defBody s_law_row_right) (defScope s_law_row_right) .none kV36 dc36 pm36 an36 cd36 ct36), sl36⟩)
    (c36 : PySem.W.codeIn K cd36 "_law_row_right" = true)
    (k36 : PySem.W.keepIn K (.ref f36) = true)
    (a37 : PySem.W.nsIn K mainGlobals "_law_right" = some (some (.ref f37)))
    (l37 : K.lookup f37 = some ⟨oc37, od37, .func (PySem.W.fnOf "_law_right" "_law_right" (defArgs s_law_right) (defBody s_law_right) (defScope s_law_right) .none kV37 dc37 pm37 an37 cd37 ct37), sl37⟩)
    (c37 : PySem.W.codeIn K cd37 "_law_right" = true)
    (k37 : PySem.W.keepIn K (.ref f37) = true)
    (a38 : PySem.W.nsIn K mainGlobals "law" = some (some (.ref f38)))
    (l38 : K.lookup f38 = some ⟨oc38, od38, .func (PySem.W.fnOf "law" "law" (defArgs s_law) (defBody s_law) (defScope s_law) .none kV38 dc38 pm38 an38 cd38 ct38), sl38⟩)
    (c38 : PySem.W.codeIn K cd38 "law" = true)
    (k38 : PySem.W.keepIn K (.ref f38) = true)
    (z_len : PySem.W.nsIn K mainGlobals "len" = some none)
    (z_tuple : PySem.W.nsIn K mainGlobals "tuple" = some none)
    (z_isinstance : PySem.W.nsIn K mainGlobals "isinstance" = some none)
    (z_str : PySem.W.nsIn K mainGlobals "str" = some none)
    (z_all : PySem.W.nsIn K mainGlobals "all" = some none)
    (z_set : PySem.W.nsIn K mainGlobals "set" = some none)
    (z_any : PySem.W.nsIn K mainGlobals "any" = some none)
    (z_int : PySem.W.nsIn K mainGlobals "int" = some none)
    (z_abs : PySem.W.nsIn K mainGlobals "abs" = some none)
    (z_divmod : PySem.W.nsIn K mainGlobals "divmod" = some none)
    (z_range : PySem.W.nsIn K mainGlobals "range" = some none)
    (z_max : PySem.W.nsIn K mainGlobals "max" = some none)
    (z_list : PySem.W.nsIn K mainGlobals "list" = some none)
    (z_min : PySem.W.nsIn K mainGlobals "min" = some none)
    (z_sorted : PySem.W.nsIn K mainGlobals "sorted" = some none)
    (z_enumerate : PySem.W.nsIn K mainGlobals "enumerate" = some none)
    (n_LETTERS : PySem.W.nsIn K mainGlobals "LETTERS" = some (some (.str "abcdefghijklmnopqrstuvwxyz" tk_LETTERS)))
    (n_MOST_COPIES : PySem.W.nsIn K mainGlobals "MOST_COPIES" = some (some (.int 40 tk_MOST_COPIES)))
    (oh0 : PySem.W.findIn K (.ref C0) "__class__" = some (some (.builtin "object.__class__")))
    (on0 : PySem.W.specialIn K (.builtin "object.__class__") "__get__" = some (some (.builtin "getset_descriptor.__get__")))
    (ot0 : PySem.W.takesIn K (.builtin "object.__class__") = some true)
    (om0 : PySem.W.mroIn K C0 (.type "object") = some true)
    (oe0 : PySem.W.findIn K (.ref C0) "__ne__" = some (some (.builtin "object.__ne__")))
    (ob0 : PySem.W.findIn K (.ref C0) "__bool__" = some none)
    (ol0 : PySem.W.findIn K (.ref C0) "__len__" = some none)
    (oc0_ : PySem.W.typeIn K (.ref C0) = some (.type "type"))
    (qn_Web_written : PySem.W.findIn K (.ref C0) "written" = some none)
    (qn_Web_rows : PySem.W.findIn K (.ref C0) "rows" = some none)
    (qn_Web_heads : PySem.W.findIn K (.ref C0) "heads" = some none)
    (qn_Web_pairs : PySem.W.findIn K (.ref C0) "pairs" = some none)
    (qn_Web_zigzag_rows : PySem.W.findIn K (.ref C0) "zigzag_rows" = some none)
    : ∃ fd : FuncData, (∀ (s : Shared) (v : Value), BindsTo s fd ⟨[v], []⟩ [("_law_script", v)]) ∧ ∀ base : Heap, K.In base → base.Ns mainGlobals mg → FnG l.prog w K mg base CX0 8 fa fd ["_law_script"] spLaw := by
  let ct : CTab := ⟨fun i => C0 + i, fun i j e => Nat.add_left_cancel (show C0 + i = C0 + j from e)⟩
  have e := hfa.symm.trans (PySem.W.mg_of X G a38)
  cases e
  have F2 := fun_mk (st := s_are_beside) l2 c2 k2
  have b2 := F2.binds (ps := ["one", "other"]) fun _ _ _ _ _ _ us hl => match us, hl with | [_, _], _ => rfl
  have F3 := fun_mk (st := s_walk_from) l3 c3 k3
  have b3 := F3.binds (ps := ["lines", "start"]) fun _ _ _ _ _ _ us hl => match us, hl with | [_, _], _ => rfl
  have F4 := fun_mk (st := s_is_closed) l4 c4 k4
  have b4 := F4.binds (ps := ["row"]) fun _ _ _ _ _ _ us hl => match us, hl with | [_], _ => rfl
  have F5 := fun_mk (st := s_row_of) l5 c5 k5
  have b5 := F5.binds (ps := ["lines", "first"]) fun _ _ _ _ _ _ us hl => match us, hl with | [_, _], _ => rfl
  have F6 := fun_mk (st := s_rows_in) l6 c6 k6
  have b6 := F6.binds (ps := ["lines"]) fun _ _ _ _ _ _ us hl => match us, hl with | [_], _ => rfl
  have F15 := fun_mk (st := s_is_name) l15 c15 k15
  have b15 := F15.binds (ps := ["value"]) fun _ _ _ _ _ _ us hl => match us, hl with | [_], _ => rfl
  have F17 := fun_mk (st := s_are_sources) l17 c17 k17
  have b17 := F17.binds (ps := ["values", "names"]) fun _ _ _ _ _ _ us hl => match us, hl with | [_, _], _ => rfl
  have F18 := fun_mk (st := s_web_in) l18 c18 k18
  have b18 := F18.binds (ps := ["text"]) fun _ _ _ _ _ _ us hl => match us, hl with | [_], _ => rfl
  have F1000 := fun_mk (st := s_Web___init__) l1000 c1000 k1000
  have b1000 := F1000.binds (ps := ["self", "text"]) fun _ _ _ _ _ _ us hl => match us, hl with | [_, _], _ => rfl
  have F20 := fun_mk (st := s_check_web) l20 c20 k20
  have b20 := F20.binds (ps := ["web"]) fun _ _ _ _ _ _ us hl => match us, hl with | [_], _ => rfl
  have F21 := fun_mk (st := s_check_copy) l21 c21 k21
  have b21 := F21.binds (ps := ["web", "copy"]) fun _ _ _ _ _ _ us hl => match us, hl with | [_, _], _ => rfl
  have F1001 := fun_mk (st := s_Web_text) l1001 c1001 k1001
  have b1001 := F1001.binds (ps := ["self"]) fun _ _ _ _ _ _ us hl => match us, hl with | [_], _ => rfl
  have F1002 := fun_mk (st := s_Web_names) l1002 c1002 k1002
  have b1002 := F1002.binds (ps := ["self"]) fun _ _ _ _ _ _ us hl => match us, hl with | [_], _ => rfl
  have F1003 := fun_mk (st := s_Web_lines) l1003 c1003 k1003
  have b1003 := F1003.binds (ps := ["self"]) fun _ _ _ _ _ _ us hl => match us, hl with | [_], _ => rfl
  have F1005 := fun_mk (st := s_Web_sources) l1005 c1005 k1005
  have b1005 := F1005.binds (ps := ["self", "copy"]) fun _ _ _ _ _ _ us hl => match us, hl with | [_, _], _ => rfl
  have F1006 := fun_mk (st := s_Web_copies) l1006 c1006 k1006
  have b1006 := F1006.binds (ps := ["self", "source"]) fun _ _ _ _ _ _ us hl => match us, hl with | [_, _], _ => rfl
  have F1009 := fun_mk (st := s_Web___str__) l1009 c1009 k1009
  have b1009 := F1009.binds (ps := ["self"]) fun _ _ _ _ _ _ us hl => match us, hl with | [_], _ => rfl
  have F1010 := fun_mk (st := s_Web___repr__) l1010 c1010 k1010
  have b1010 := F1010.binds (ps := ["self"]) fun _ _ _ _ _ _ us hl => match us, hl with | [_], _ => rfl
  have F1011 := fun_mk (st := s_Web___eq__) l1011 c1011 k1011
  have b1011 := F1011.binds (ps := ["self", "other"]) fun _ _ _ _ _ _ us hl => match us, hl with | [_, _], _ => rfl
  have F22 := fun_mk (st := s_check_line) l22 c22 k22
  have b22 := F22.binds (ps := ["web", "source", "copy"]) fun _ _ _ _ _ _ us hl => match us, hl with | [_, _, _], _ => rfl
  have F24 := fun_mk (st := s_all_rows) l24 c24 k24
  have b24 := F24.binds (ps := ["web"]) fun _ _ _ _ _ _ us hl => match us, hl with | [_], _ => rfl
  have F25 := fun_mk (st := s_zigzags) l25 c25 k25
  have b25 := F25.binds (ps := ["web"]) fun _ _ _ _ _ _ us hl => match us, hl with | [_], _ => rfl
  have F26 := fun_mk (st := s_zigzag_of) l26 c26 k26
  have b26 := F26.binds (ps := ["web", "source", "copy"]) fun _ _ _ _ _ _ us hl => match us, hl with | [_, _, _], _ => rfl
  have F28 := fun_mk (st := s_law_purse) l28 c28 k28
  have b28 := F28.binds (ps := ["_law_script", "_law_spot"]) fun _ _ _ _ _ _ us hl => match us, hl with | [_, _], _ => rfl
  have F29 := fun_mk (st := s_law_draw) l29 c29 k29
  have b29 := F29.binds (ps := ["_law_purse_here", "_law_many"]) fun _ _ _ _ _ _ us hl => match us, hl with | [_, _], _ => rfl
  have F30 := fun_mk (st := s_law_pick) l30 c30 k30
  have b30 := F30.binds (ps := ["_law_purse_here", "_law_some"]) fun _ _ _ _ _ _ us hl => match us, hl with | [_, _], _ => rfl
  have F31 := fun_mk (st := s_law_labels) l31 c31 k31
  have b31 := F31.binds (ps := ["_law_purse_here", "_law_many"]) fun _ _ _ _ _ _ us hl => match us, hl with | [_, _], _ => rfl
  have F32 := fun_mk (st := s_law_rows) l32 c32 k32
  have b32 := F32.binds (ps := ["_law_purse_here", "_law_many", "_law_joins"]) fun _ _ _ _ _ _ us hl => match us, hl with | [_, _, _], _ => rfl
  have F33 := fun_mk (st := s_law_said) l33 c33 k33
  have b33 := F33.binds (ps := ["_law_rows_here"]) fun _ _ _ _ _ _ us hl => match us, hl with | [_], _ => rfl
  have F34 := fun_mk (st := s_law_pairs) l34 c34 k34
  have b34 := F34.binds (ps := ["_law_rows_here"]) fun _ _ _ _ _ _ us hl => match us, hl with | [_], _ => rfl
  have F35 := fun_mk (st := s_law_beside) l35 c35 k35
  have b35 := F35.binds (ps := ["_law_one_pair", "_law_two_pair"]) fun _ _ _ _ _ _ us hl => match us, hl with | [_, _], _ => rfl
  have F36 := fun_mk (st := s_law_row_right) l36 c36 k36
  have b36 := F36.binds (ps := ["_law_row_here", "_law_pairs_here"]) fun _ _ _ _ _ _ us hl => match us, hl with | [_, _], _ => rfl
  have F37 := fun_mk (st := s_law_right) l37 c37 k37
  have b37 := F37.binds (ps := ["_law_purse_here"]) fun _ _ _ _ _ _ us hl => match us, hl with | [_], _ => rfl
  have F38 := fun_mk (st := s_law) l38 c38 k38
  have b38 := F38.binds (ps := ["_law_script"]) fun _ _ _ _ _ _ us hl => match us, hl with | [_], _ => rfl
  have T : Tx w K mg (fun n => match n with | 2 => f2 | 3 => f3 | 4 => f4 | 5 => f5 | 6 => f6 | 15 => f15 | 17 => f17 | 18 => f18 | 20 => f20 | 21 => f21 | 22 => f22 | 24 => f24 | 25 => f25 | 26 => f26 | 28 => f28 | 29 => f29 | 30 => f30 | 31 => f31 | 32 => f32 | 33 => f33 | 34 => f34 | 35 => f35 | 36 => f36 | 37 => f37 | 38 => fa | 1000 => f1000 | 1001 => f1001 | 1002 => f1002 | 1003 => f1003 | 1005 => f1005 | 1006 => f1006 | 1009 => f1009 | 1010 => f1010 | 1011 => f1011 | _ => 0) (fun n => match n with | 2 => PySem.W.fnOf "are_beside" "are_beside" (defArgs s_are_beside) (defBody s_are_beside) (defScope s_are_beside) .none kV2 dc2 pm2 an2 cd2 ct2 | 3 => PySem.W.fnOf "walk_from" "walk_from" (defArgs s_walk_from) (defBody s_walk_from) (defScope s_walk_from) .none kV3 dc3 pm3 an3 cd3 ct3 | 4 => PySem.W.fnOf "is_closed" "is_closed" (defArgs s_is_closed) (defBody s_is_closed) (defScope s_is_closed) .none kV4 dc4 pm4 an4 cd4 ct4 | 5 => PySem.W.fnOf "row_of" "row_of" (defArgs s_row_of) (defBody s_row_of) (defScope s_row_of) .none kV5 dc5 pm5 an5 cd5 ct5 | 6 => PySem.W.fnOf "rows_in" "rows_in" (defArgs s_rows_in) (defBody s_rows_in) (defScope s_rows_in) .none kV6 dc6 pm6 an6 cd6 ct6 | 15 => PySem.W.fnOf "is_name" "is_name" (defArgs s_is_name) (defBody s_is_name) (defScope s_is_name) .none kV15 dc15 pm15 an15 cd15 ct15 | 17 => PySem.W.fnOf "are_sources" "are_sources" (defArgs s_are_sources) (defBody s_are_sources) (defScope s_are_sources) .none kV17 dc17 pm17 an17 cd17 ct17 | 18 => PySem.W.fnOf "web_in" "web_in" (defArgs s_web_in) (defBody s_web_in) (defScope s_web_in) .none kV18 dc18 pm18 an18 cd18 ct18 | 20 => PySem.W.fnOf "check_web" "check_web" (defArgs s_check_web) (defBody s_check_web) (defScope s_check_web) .none kV20 dc20 pm20 an20 cd20 ct20 | 21 => PySem.W.fnOf "check_copy" "check_copy" (defArgs s_check_copy) (defBody s_check_copy) (defScope s_check_copy) .none kV21 dc21 pm21 an21 cd21 ct21 | 22 => PySem.W.fnOf "check_line" "check_line" (defArgs s_check_line) (defBody s_check_line) (defScope s_check_line) .none kV22 dc22 pm22 an22 cd22 ct22 | 24 => PySem.W.fnOf "all_rows" "all_rows" (defArgs s_all_rows) (defBody s_all_rows) (defScope s_all_rows) .none kV24 dc24 pm24 an24 cd24 ct24 | 25 => PySem.W.fnOf "zigzags" "zigzags" (defArgs s_zigzags) (defBody s_zigzags) (defScope s_zigzags) .none kV25 dc25 pm25 an25 cd25 ct25 | 26 => PySem.W.fnOf "zigzag_of" "zigzag_of" (defArgs s_zigzag_of) (defBody s_zigzag_of) (defScope s_zigzag_of) .none kV26 dc26 pm26 an26 cd26 ct26 | 28 => PySem.W.fnOf "_law_purse" "_law_purse" (defArgs s_law_purse) (defBody s_law_purse) (defScope s_law_purse) .none kV28 dc28 pm28 an28 cd28 ct28 | 29 => PySem.W.fnOf "_law_draw" "_law_draw" (defArgs s_law_draw) (defBody s_law_draw) (defScope s_law_draw) .none kV29 dc29 pm29 an29 cd29 ct29 | 30 => PySem.W.fnOf "_law_pick" "_law_pick" (defArgs s_law_pick) (defBody s_law_pick) (defScope s_law_pick) .none kV30 dc30 pm30 an30 cd30 ct30 | 31 => PySem.W.fnOf "_law_labels" "_law_labels" (defArgs s_law_labels) (defBody s_law_labels) (defScope s_law_labels) .none kV31 dc31 pm31 an31 cd31 ct31 | 32 => PySem.W.fnOf "_law_rows" "_law_rows" (defArgs s_law_rows) (defBody s_law_rows) (defScope s_law_rows) .none kV32 dc32 pm32 an32 cd32 ct32 | 33 => PySem.W.fnOf "_law_said" "_law_said" (defArgs s_law_said) (defBody s_law_said) (defScope s_law_said) .none kV33 dc33 pm33 an33 cd33 ct33 | 34 => PySem.W.fnOf "_law_pairs" "_law_pairs" (defArgs s_law_pairs) (defBody s_law_pairs) (defScope s_law_pairs) .none kV34 dc34 pm34 an34 cd34 ct34 | 35 => PySem.W.fnOf "_law_beside" "_law_beside" (defArgs s_law_beside) (defBody s_law_beside) (defScope s_law_beside) .none kV35 dc35 pm35 an35 cd35 ct35 | 36 => PySem.W.fnOf "_law_row_right" "_law_row_right" (defArgs s_law_row_right) (defBody s_law_row_right) (defScope s_law_row_right) .none kV36 dc36 pm36 an36 cd36 ct36 | 37 => PySem.W.fnOf "_law_right" "_law_right" (defArgs s_law_right) (defBody s_law_right) (defScope s_law_right) .none kV37 dc37 pm37 an37 cd37 ct37 | 38 => PySem.W.fnOf "law" "law" (defArgs s_law) (defBody s_law) (defScope s_law) .none kV38 dc38 pm38 an38 cd38 ct38 | 1000 => PySem.W.fnOf "__init__" "Web.__init__" (defArgs s_Web___init__) (defBody s_Web___init__) (defScope s_Web___init__) .none kV1000 dc1000 pm1000 an1000 cd1000 ct1000 | 1001 => PySem.W.fnOf "text" "Web.text" (defArgs s_Web_text) (defBody s_Web_text) (defScope s_Web_text) .none kV1001 dc1001 pm1001 an1001 cd1001 ct1001 | 1002 => PySem.W.fnOf "names" "Web.names" (defArgs s_Web_names) (defBody s_Web_names) (defScope s_Web_names) .none kV1002 dc1002 pm1002 an1002 cd1002 ct1002 | 1003 => PySem.W.fnOf "lines" "Web.lines" (defArgs s_Web_lines) (defBody s_Web_lines) (defScope s_Web_lines) .none kV1003 dc1003 pm1003 an1003 cd1003 ct1003 | 1005 => PySem.W.fnOf "sources" "Web.sources" (defArgs s_Web_sources) (defBody s_Web_sources) (defScope s_Web_sources) .none kV1005 dc1005 pm1005 an1005 cd1005 ct1005 | 1006 => PySem.W.fnOf "copies" "Web.copies" (defArgs s_Web_copies) (defBody s_Web_copies) (defScope s_Web_copies) .none kV1006 dc1006 pm1006 an1006 cd1006 ct1006 | 1009 => PySem.W.fnOf "__str__" "Web.__str__" (defArgs s_Web___str__) (defBody s_Web___str__) (defScope s_Web___str__) .none kV1009 dc1009 pm1009 an1009 cd1009 ct1009 | 1010 => PySem.W.fnOf "__repr__" "Web.__repr__" (defArgs s_Web___repr__) (defBody s_Web___repr__) (defScope s_Web___repr__) .none kV1010 dc1010 pm1010 an1010 cd1010 ct1010 | 1011 => PySem.W.fnOf "__eq__" "Web.__eq__" (defArgs s_Web___eq__) (defBody s_Web___eq__) (defScope s_Web___eq__) .none kV1011 dc1011 pm1011 an1011 cd1011 ct1011 | _ => PySem.W.fnOf "law" "law" (defArgs s_law) (defBody s_law) (defScope s_law) .none kV38 dc38 pm38 an38 cd38 ct38) := ⟨PySem.W.mg_none_of X G z_len, PySem.W.mg_none_of X G z_tuple, PySem.W.mg_none_of X G z_isinstance, PySem.W.mg_none_of X G z_str, PySem.W.mg_none_of X G z_all, PySem.W.mg_none_of X G z_set, PySem.W.mg_none_of X G z_any, PySem.W.mg_none_of X G z_int, PySem.W.mg_none_of X G z_abs, PySem.W.mg_none_of X G z_divmod, PySem.W.mg_none_of X G z_range, PySem.W.mg_none_of X G z_max, PySem.W.mg_none_of X G z_list, PySem.W.mg_none_of X G z_min, PySem.W.mg_none_of X G z_sorted, PySem.W.mg_none_of X G z_enumerate, ⟨_, PySem.W.mg_of X G n_LETTERS⟩, ⟨_, PySem.W.mg_of X G n_MOST_COPIES⟩, F2, PySem.W.mg_of X G a2, b2, F3, PySem.W.mg_of X G a3, b3, F4, PySem.W.mg_of X G a4, b4, F5, PySem.W.mg_of X G a5, b5, F6, PySem.W.mg_of X G a6, b6, F15, PySem.W.mg_of X G a15, b15, F17, PySem.W.mg_of X G a17, b17, F18, PySem.W.mg_of X G a18, b18, F1000, b1000, F20, PySem.W.mg_of X G a20, b20, F21, PySem.W.mg_of X G a21, b21, F1001, ⟨p1001, ap1001, gp1001, tp1001, ⟨_, rp1001⟩⟩, b1001, F1002, ⟨p1002, ap1002, gp1002, tp1002, ⟨_, rp1002⟩⟩, b1002, F1003, ⟨p1003, ap1003, gp1003, tp1003, ⟨_, rp1003⟩⟩, b1003, F1005, ⟨a1005, i1005, k1005⟩, b1005, F1006, ⟨a1006, i1006, k1006⟩, b1006, F1009, ⟨a1009, i1009, k1009⟩, b1009, F1010, ⟨a1010, i1010, k1010⟩, b1010, F1011, ⟨a1011, i1011, k1011⟩, b1011, F22, PySem.W.mg_of X G a22, b22, F24, PySem.W.mg_of X G a24, b24, F25, PySem.W.mg_of X G a25, b25, F26, PySem.W.mg_of X G a26, b26, F28, PySem.W.mg_of X G a28, b28, F29, PySem.W.mg_of X G a29, b29, F30, PySem.W.mg_of X G a30, b30, F31, PySem.W.mg_of X G a31, b31, F32, PySem.W.mg_of X G a32, b32, F33, PySem.W.mg_of X G a33, b33, F34, PySem.W.mg_of X G a34, b34, F35, PySem.W.mg_of X G a35, b35, F36, PySem.W.mg_of X G a36, b36, F37, PySem.W.mg_of X G a37, b37, F38, PySem.W.mg_of X G a38, b38, ⟨pg0, hd0, po0, sa0⟩, ⟨⟨pg0, hd0, po0, sa0⟩, oh0, on0, ot0, om0, oe0, ob0, ol0, oc0_⟩, qn_Web_written, qn_Web_rows, qn_Web_heads, qn_Web_pairs, qn_Web_zigzag_rows, ⟨mk0, a1000, i1000, kc0⟩, PySem.W.mg_of X G aC0⟩
  exact ⟨PySem.W.fnOf "law" "law" (defArgs s_law) (defBody s_law) (defScope s_law) .none kV38 dc38 pm38 an38 cd38 ct38, fun s v => .of_eq rfl, fun base _ _ => FnG.imp (FnG.of (ok_law T)) (spLaw_of maths)⟩
end K06
open PySem PySem.W PyProof.Rows
set_option maxRecDepth 100000 in
set_option maxHeartbeats 0 in
theorem PySem.Challenge.cw_basetrees_k06_whole_zigzags_holds : PySem.Challenge.rw_basetrees_k06_whole_zigzags.Holds := by
  w_on; o_law; k_head; (case hw => w_witness2)
  k_fill
  refine Dn.walk_law (l := PySem.Challenge.rw_basetrees_k06_whole_zigzags) (k := 8) (x := "_law_script") rfl rfl ⟨rfl, by decide, by decide⟩ (fun w h Y => PySem.W.kIn_of Y) ?L ?F
  case L => (intro w; kernel_rfl)
  case F =>
    intro w mg fa h KX G hmg
    refine' K06.all_mk KX G hmg ?aC0 ?pg0 ?hd0 ?po0 ?sa0 ?mk0 ?kc0 ?a2 ?l2 ?c2 ?k2 ?a3 ?l3 ?c3 ?k3 ?a4 ?l4 ?c4 ?k4 ?a5 ?l5 ?c5 ?k5 ?a6 ?l6 ?c6 ?k6 ?a15 ?l15 ?c15 ?k15 ?a17 ?l17 ?c17 ?k17 ?a18 ?l18 ?c18 ?k18 ?a1000 ?i1000 ?l1000 ?c1000 ?k1000 ?a20 ?l20 ?c20 ?k20 ?a21 ?l21 ?c21 ?k21 ?ap1001 ?gp1001 ?tp1001 ?rp1001 ?l1001 ?c1001 ?k1001 ?ap1002 ?gp1002 ?tp1002 ?rp1002 ?l1002 ?c1002 ?k1002 ?ap1003 ?gp1003 ?tp1003 ?rp1003 ?l1003 ?c1003 ?k1003 ?a1005 ?i1005 ?l1005 ?c1005 ?k1005 ?a1006 ?i1006 ?l1006 ?c1006 ?k1006 ?a1009 ?i1009 ?l1009 ?c1009 ?k1009 ?a1010 ?i1010 ?l1010 ?c1010 ?k1010 ?a1011 ?i1011 ?l1011 ?c1011 ?k1011 ?a22 ?l22 ?c22 ?k22 ?a24 ?l24 ?c24 ?k24 ?a25 ?l25 ?c25 ?k25 ?a26 ?l26 ?c26 ?k26 ?a28 ?l28 ?c28 ?k28 ?a29 ?l29 ?c29 ?k29 ?a30 ?l30 ?c30 ?k30 ?a31 ?l31 ?c31 ?k31 ?a32 ?l32 ?c32 ?k32 ?a33 ?l33 ?c33 ?k33 ?a34 ?l34 ?c34 ?k34 ?a35 ?l35 ?c35 ?k35 ?a36 ?l36 ?c36 ?k36 ?a37 ?l37 ?c37 ?k37 ?a38 ?l38 ?c38 ?k38 ?z_len ?z_tuple ?z_isinstance ?z_str ?z_all ?z_set ?z_any ?z_int ?z_abs ?z_divmod ?z_range ?z_max ?z_list ?z_min ?z_sorted ?z_enumerate ?n_LETTERS ?n_MOST_COPIES ?oh0 ?on0 ?ot0 ?om0 ?oe0 ?ob0 ?ol0 ?oc0_ ?qn_Web_written ?qn_Web_rows ?qn_Web_heads ?qn_Web_pairs ?qn_Web_zigzag_rows
    (case aC0 => k_is)
    (case pg0 => k_is)
    (case hd0 => k_is)
    (case po0 => k_is)
    (case sa0 => k_is)
    (case mk0 => k_is)
    (case kc0 => k_is)
    (case a2 => k_is)
    (case l2 => k_is)
    (case c2 => k_is)
    (case k2 => k_is)
    (case a3 => k_is)
    (case l3 => k_is)
    (case c3 => k_is)
    (case k3 => k_is)
    (case a4 => k_is)
    (case l4 => k_is)
    (case c4 => k_is)
    (case k4 => k_is)
    (case a5 => k_is)
    (case l5 => k_is)
    (case c5 => k_is)
    (case k5 => k_is)
    (case a6 => k_is)
    (case l6 => k_is)
    (case c6 => k_is)
    (case k6 => k_is)
    (case a15 => k_is)
    (case l15 => k_is)
    (case c15 => k_is)
    (case k15 => k_is)
    (case a17 => k_is)
    (case l17 => k_is)
    (case c17 => k_is)
    (case k17 => k_is)
    (case a18 => k_is)
    (case l18 => k_is)
    (case c18 => k_is)
    (case k18 => k_is)
    (case a1000 => k_is)
    (case i1000 => k_is)
    (case l1000 => k_is)
    (case c1000 => k_is)
    (case k1000 => k_is)
    (case a20 => k_is)
    (case l20 => k_is)
    (case c20 => k_is)
    (case k20 => k_is)
    (case a21 => k_is)
    (case l21 => k_is)
    (case c21 => k_is)
    (case k21 => k_is)
    (case ap1001 => k_is)
    (case gp1001 => k_is)
    (case tp1001 => k_is)
    (case rp1001 => k_is)
    (case l1001 => k_is)
    (case c1001 => k_is)
    (case k1001 => k_is)
    (case ap1002 => k_is)
    (case gp1002 => k_is)
    (case tp1002 => k_is)
    (case rp1002 => k_is)
    (case l1002 => k_is)
    (case c1002 => k_is)
    (case k1002 => k_is)
    (case ap1003 => k_is)
    (case gp1003 => k_is)
    (case tp1003 => k_is)
    (case rp1003 => k_is)
    (case l1003 => k_is)
    (case c1003 => k_is)
    (case k1003 => k_is)
    (case a1005 => k_is)
    (case i1005 => k_is)
    (case l1005 => k_is)
    (case c1005 => k_is)
    (case k1005 => k_is)
    (case a1006 => k_is)
    (case i1006 => k_is)
    (case l1006 => k_is)
    (case c1006 => k_is)
    (case k1006 => k_is)
    (case a1009 => k_is)
    (case i1009 => k_is)
    (case l1009 => k_is)
    (case c1009 => k_is)
    (case k1009 => k_is)
    (case a1010 => k_is)
    (case i1010 => k_is)
    (case l1010 => k_is)
    (case c1010 => k_is)
    (case k1010 => k_is)
    (case a1011 => k_is)
    (case i1011 => k_is)
    (case l1011 => k_is)
    (case c1011 => k_is)
    (case k1011 => k_is)
    (case a22 => k_is)
    (case l22 => k_is)
    (case c22 => k_is)
    (case k22 => k_is)
    (case a24 => k_is)
    (case l24 => k_is)
    (case c24 => k_is)
    (case k24 => k_is)
    (case a25 => k_is)
    (case l25 => k_is)
    (case c25 => k_is)
    (case k25 => k_is)
    (case a26 => k_is)
    (case l26 => k_is)
    (case c26 => k_is)
    (case k26 => k_is)
    (case a28 => k_is)
    (case l28 => k_is)
    (case c28 => k_is)
    (case k28 => k_is)
    (case a29 => k_is)
    (case l29 => k_is)
    (case c29 => k_is)
    (case k29 => k_is)
    (case a30 => k_is)
    (case l30 => k_is)
    (case c30 => k_is)
    (case k30 => k_is)
    (case a31 => k_is)
    (case l31 => k_is)
    (case c31 => k_is)
    (case k31 => k_is)
    (case a32 => k_is)
    (case l32 => k_is)
    (case c32 => k_is)
    (case k32 => k_is)
    (case a33 => k_is)
    (case l33 => k_is)
    (case c33 => k_is)
    (case k33 => k_is)
    (case a34 => k_is)
    (case l34 => k_is)
    (case c34 => k_is)
    (case k34 => k_is)
    (case a35 => k_is)
    (case l35 => k_is)
    (case c35 => k_is)
    (case k35 => k_is)
    (case a36 => k_is)
    (case l36 => k_is)
    (case c36 => k_is)
    (case k36 => k_is)
    (case a37 => k_is)
    (case l37 => k_is)
    (case c37 => k_is)
    (case k37 => k_is)
    (case a38 => k_is)
    (case l38 => k_is)
    (case c38 => k_is)
    (case k38 => k_is)
    (case z_len => k_is)
    (case z_tuple => k_is)
    (case z_isinstance => k_is)
    (case z_str => k_is)
    (case z_all => k_is)
    (case z_set => k_is)
    (case z_any => k_is)
    (case z_int => k_is)
    (case z_abs => k_is)
    (case z_divmod => k_is)
    (case z_range => k_is)
    (case z_max => k_is)
    (case z_list => k_is)
    (case z_min => k_is)
    (case z_sorted => k_is)
    (case z_enumerate => k_is)
    (case n_LETTERS => k_is)
    (case n_MOST_COPIES => k_is)
    (case oh0 => k_is)
    (case on0 => k_is)
    (case ot0 => k_is)
    (case om0 => k_is)
    (case oe0 => k_is)
    (case ob0 => k_is)
    (case ol0 => k_is)
    (case oc0_ => k_is)
    (case qn_Web_written => k_is)
    (case qn_Web_rows => k_is)
    (case qn_Web_heads => k_is)
    (case qn_Web_pairs => k_is)
    (case qn_Web_zigzag_rows => k_is)
