import PyProof.Rows.All
import Wide.All
import OpenK.AllK
import Wide.FinOn
import KE.KDictKeyed
import KE.KDictWalk
import HandS.ForMost
import HandS.Exc
import HandS.ExcOwn
import HandS.WordsExc
import HandS.Defaults
import HandS.CallSlots
import HandS.Flow
import HandS.Wide
import HandS.TupAny
import HandS.Deep
import HandS.IsInst
import HandS.More
import HandS.Text
import HandS.Strs
import HandS.HeadHook4
import HandS.TryMany
import HandS.Zip
import HandS.FStr
import HandS.RaiseMore
import HandS.StrMore
import HandS.ForSpec
import HandS.TupMul
import PyProof.StrOps2
import PySem.Challenge.RW_anysheet_k10_texts_refused
import HandS.Head2
import HandS.HeadWalk
set_option Elab.async false
set_option linter.all false
set_option maxRecDepth 100000
set_option maxHeartbeats 4000000
/-! P0: plain values, what bears them in the heap, plain states, what a body's meaning promises. -/
namespace Pl
open PySem PySem.Spec PyProof.Rows L2

/-- a plain value -/
inductive PV where
  | non | bl (b : Bool) | int (i : Int) | str (x : Str)
  | tup (xs : List PV) | lst (xs : List PV) | dct (ks vs : List PV) | dks (ks vs : List PV) | ins (c : Nat) (xs : List PV)
  /-- the script as it was handed in -/
  | scr (ns : List Int)

/-- what is told of the text's own classes: where each stands, its attributes in order -/
structure Fx where
  K : PySem.W.Frag
  w : World
  cls : Nat → Addr
  fld : Nat → List Str

def keyPV : Key → PV
  | .inl i => .int i
  | .inr x => .str x

/-- a dict whose keys are tuples of any depth, told by its entries -/
def dHO (w : World) (a : Addr) (xs : List (NestedKey × Addr × Value)) : HO :=
  .ext fun h => ∃ o es ep, h.get? a = some o ∧ o.ExactDict ∧ o.data = .dict es ep ∧ es.toList = xs.map fun x => (⟨x.1.hash w, .ref x.2.1, x.2.2⟩ : DictEntry)

/-- a key up to == -/
def nkey : PV → NestedKey
  | .bl b => .num (if b then 1 else 0)
  | .int i => .num i
  | .str x => .text x
  | .tup xs => .tup (nkeys xs)
  | _ => .none
where nkeys : List PV → List NestedKey
  | [] => []
  | x :: xs => nkey x :: nkeys xs

mutual
/-- the value v bears the plain value in what stands still -/
inductive Rep (F : Fx) (G : Hp) : PV → V → Prop
  | non : Rep F G .non .non
  | bl (b : Bool) : Rep F G (.bl b) (.bl b)
  | int (i : Int) : Rep F G (.int i) (.int i)
  | str (x : Str) : Rep F G (.str x) (.str x)
  | tup {ps : List PV} {a : Addr} {vs : List V} : SqT F.K G a vs → Reps F G ps vs → Rep F G (.tup ps) (.ref a)
  | lst {ps : List PV} {a : Addr} {vs : List V} : G a = some (.lst vs) → Reps F G ps vs → Rep F G (.lst ps) (.ref a)
  | scr {ns : List Int} {a : Addr} : SqL F.K G a (ns.map V.int) → Rep F G (.scr ns) (.ref a)
  | dK {ks vs : List PV} {a : Addr} {kvs : List (Key × V)} : G a = some (.dK kvs) → ks = kvs.map (fun q => keyPV q.1) → Reps F G vs (kvs.map (·.2)) → Rep F G (.dks ks vs) (.ref a)
  | dT {ks vs : List PV} {a : Addr} {xs : List (NestedKey × Addr × Value)} {us : List V} : G a = some (dHO F.w a xs) → Reps F G ks (xs.map fun x => V.ref x.2.1) → ks.map nkey = xs.map (·.1) →
      Vals us (xs.map (·.2.2)) → Reps F G vs us → Rep F G (.dct ks vs) (.ref a)
  | ins {c : Nat} {ps : List PV} {a dx : Addr} {fs : List (Str × V)} : G a = some (.ins (F.cls c) dx fs) → fs.map (·.1) = F.fld c → Reps F G ps (fs.map (·.2)) → Rep F G (.ins c ps) (.ref a)
inductive Reps (F : Fx) (G : Hp) : List PV → List V → Prop
  | nil : Reps F G [] []
  | cons {p : PV} {v : V} {ps : List PV} {vs : List V} : Rep F G p v → Reps F G ps vs → Reps F G (p :: ps) (v :: vs)
end

theorem SqT.same {K : PySem.W.Frag} {H H' : Hp} {a : Addr} {xs : List V} (e : Same H H') (h : SqT K H a xs) : SqT K H' a xs := by
  rcases h with (h | ⟨o, h⟩) | h
  · exact .inl (.inl (e _ _ h))
  · exact .inl (.inr ⟨o, e _ _ h⟩)
  · exact .inr h

section
variable {F : Fx} {G G' : Hp}
mutual
theorem Rep.same (e : Same G G') : ∀ {p : PV} {v : V}, Rep F G p v → Rep F G' p v
  | _, _, .non => .non
  | _, _, .bl b => .bl b
  | _, _, .int i => .int i
  | _, _, .str x => .str x
  | _, _, .tup h r => .tup (SqT.same e h) (Reps.same e r)
  | _, _, .lst h r => .lst (e _ _ h) (Reps.same e r)
  | _, _, .scr h => .scr (Same.seq e h)
  | _, _, .dK h k r => .dK (e _ _ h) k (Reps.same e r)
  | _, _, .dT h k n u r => .dT (e _ _ h) (Reps.same e k) n u (Reps.same e r)
  | _, _, .ins h k r => .ins (e _ _ h) k (Reps.same e r)
theorem Reps.same (e : Same G G') : ∀ {ps : List PV} {vs : List V}, Reps F G ps vs → Reps F G' ps vs
  | _, _, .nil => .nil
  | _, _, .cons h r => .cons (Rep.same e h) (Reps.same e r)
end
theorem Reps.length : ∀ {ps : List PV} {vs : List V}, Reps F G ps vs → ps.length = vs.length
  | _, _, .nil => rfl
  | _, _, .cons _ r => congrArg (· + 1) (Reps.length r)
theorem Reps.get : ∀ {ps : List PV} {vs : List V} {i : Nat} {p : PV}, Reps F G ps vs → ps[i]? = some p → ∃ v, vs[i]? = some v ∧ Rep F G p v
  | _, _, 0, _, .cons h _, e => by
    cases e
    exact ⟨_, rfl, h⟩
  | _, _, i + 1, p, .cons _ r, e => by
    obtain ⟨v, h1, h2⟩ := Reps.get (i := i) (p := p) r (by simpa using e)
    exact ⟨v, by simpa using h1, h2⟩
theorem Reps.append : ∀ {ps qs : List PV} {vs us : List V}, Reps F G ps vs → Reps F G qs us → Reps F G (ps ++ qs) (vs ++ us)
  | _, _, _, _, .nil, s => s
  | _, _, _, _, .cons h r, s => .cons h (Reps.append r s)
theorem Reps.take : ∀ {ps : List PV} {vs : List V} (n : Nat), Reps F G ps vs → Reps F G (ps.take n) (vs.take n)
  | _, _, 0, _ => .nil
  | _, _, _ + 1, .nil => .nil
  | _, _, n + 1, .cons h r => .cons h (Reps.take n r)
theorem Reps.drop : ∀ {ps : List PV} {vs : List V} (n : Nat), Reps F G ps vs → Reps F G (ps.drop n) (vs.drop n)
  | _, _, 0, r => r
  | _, _, _ + 1, .nil => .nil
  | _, _, n + 1, .cons _ r => Reps.drop n r
theorem Reps.set {p : PV} {v : V} (h : Rep F G p v) : ∀ {ps : List PV} {vs : List V} (i : Nat), Reps F G ps vs → Reps F G (ps.set i p) (vs.set i v)
  | _, _, _, .nil => .nil
  | _, _, 0, .cons _ r => .cons h r
  | _, _, i + 1, .cons g r => .cons g (Reps.set h i r)
end

/-- what a slot holds: a value; an object of its own that nothing else names; the object that was handed in to be changed -/
inductive SV where
  | val (p : PV)
  | own (c : PV)
  | inp (c : PV)

/-- an object that is owned: what it holds stands still -/
inductive Own (F : Fx) (G H : Hp) (p : Addr) : PV → Prop
  | lst {ps : List PV} {vs : List V} : H p = some (.lst vs) → Reps F G ps vs → Own F G H p (.lst ps)
  | dK {ks vs : List PV} {kvs : List (Key × V)} : H p = some (.dK kvs) → ks = kvs.map (fun q => keyPV q.1) → Reps F G vs (kvs.map (·.2)) → Own F G H p (.dks ks vs)
  | dT {ks vs : List PV} {xs : List (NestedKey × Addr × Value)} {us : List V} : H p = some (dHO F.w p xs) → Reps F G ks (xs.map fun x => V.ref x.2.1) → ks.map nkey = xs.map (·.1) →
      Vals us (xs.map (·.2.2)) → Reps F G vs us → Own F G H p (.dct ks vs)
  | ins {c : Nat} {ps : List PV} {dx : Addr} {fs : List (Str × V)} : H p = some (.ins (F.cls c) dx fs) → fs.map (·.1) = F.fld c → Reps F G ps (fs.map (·.2)) → Own F G H p (.ins c ps)

theorem Own.same {F : Fx} {G G' H H' : Hp} {p : Addr} {c : PV} (e : Same G G') (k : ∀ o, H p = some o → H' p = some o) (h : Own F G H p c) : Own F G' H' p c := by
  cases h with
  | lst h r => exact .lst (k _ h) (r.same e)
  | dK h q r => exact .dK (k _ h) q (r.same e)
  | dT h q n u r => exact .dT (k _ h) (q.same e) n u (r.same e)
  | ins h q r => exact .ins (k _ h) q (r.same e)
theorem Own.there {F : Fx} {G H : Hp} {p : Addr} {c : PV} (h : Own F G H p c) : ∃ o, H p = some o := by
  cases h with
  | lst h r => exact ⟨_, h⟩
  | dK h q r => exact ⟨_, h⟩
  | dT h q n u r => exact ⟨_, h⟩
  | ins h q r => exact ⟨_, h⟩
/-- it is handed on: from now on it stands still -/
theorem Own.frozen {F : Fx} {G H : Hp} {p : Addr} {c : PV} {o : HO} (h : Own F G H p c) (hp : H p = some o) (e : Same G (upd G p o)) : Rep F (upd G p o) c (.ref p) := by
  cases h with
  | lst h r => rw [hp] at h; cases h; exact .lst upd_same (r.same e)
  | dK h q r => rw [hp] at h; cases h; exact .dK upd_same q (r.same e)
  | dT h q n u r =>
    rw [hp] at h
    have h' := Option.some.inj h
    refine .dT (by rw [upd_same, h']) (q.same e) n u (r.same e)
  | ins h q r => rw [hp] at h; cases h; exact .ins upd_same q (r.same e)

abbrev Rho := List (Option SV)

/-- the slots and the heap bear the plain state; Fr: what belongs to others, and stays; io: what was handed in to be changed -/
structure StOk (F : Fx) (io : Option Addr) (G Fr H : Hp) (σ : L2.St) (ρ : Rho) : Prop where
  sub : Same G H
  fsub : Same Fr H
  dis : ∀ a o, G a = some o → Fr a = none
  len : ρ.length = σ.length
  val : ∀ (i : Nat) (p : PV), ρ[i]? = some (some (SV.val p)) → ∃ v, σ[i]? = some (some v) ∧ Rep F G p v
  own : ∀ (i : Nat) (c : PV), ρ[i]? = some (some (SV.own c)) → ∃ a, σ[i]? = some (some (V.ref a)) ∧ G a = none ∧ Fr a = none ∧ Own F G H a c ∧ io ≠ some a
  sep : ∀ (i j : Nat) (c d : PV) (a : Addr), ρ[i]? = some (some (SV.own c)) → ρ[j]? = some (some (SV.own d)) → σ[i]? = some (some (V.ref a)) → σ[j]? = some (some (V.ref a)) → i = j
  iot : ∀ a, io = some a → G a = none ∧ Fr a = none ∧ ∃ o, H a = some o
  inp : ∀ (i : Nat) (c : PV), ρ[i]? = some (some (SV.inp c)) → ∃ a, io = some a ∧ σ[i]? = some (some (V.ref a)) ∧ Own F G H a c
  one : ∀ (i j : Nat) (c d : PV), ρ[i]? = some (some (SV.inp c)) → ρ[j]? = some (some (SV.inp d)) → i = j

/-- the heap grows: all stays, more may stand still -/
structure Grow (G H G' H' : Hp) : Prop where
  all : Same H H'
  gle : Same G G'
  sub : Same G' H'
  new : ∀ a o, G' a = some o → G a = none → H a = none
theorem Grow.refl {G H : Hp} (s : Same G H) : Grow G H G H := ⟨Same.refl _, Same.refl _, s, fun a o h e => by rw [h] at e; cases e⟩
theorem Grow.trans {G H G1 H1 G2 H2 : Hp} (a : Grow G H G1 H1) (b : Grow G1 H1 G2 H2) : Grow G H G2 H2 := by
  refine ⟨a.all.trans b.all, a.gle.trans b.gle, b.sub, fun c o h e => ?_⟩
  cases q : G1 c with
  | some u => exact a.new c u q e
  | none => exact a.all.free (b.new c o h q)
theorem Grow.stays0 {G H G' H' : Hp} (g : Grow G H G' H') {a : Addr} (h : G a = none) (t : ∃ o, H a = some o) : G' a = none := by
  cases q : G' a with
  | none => rfl
  | some u =>
    obtain ⟨o, ho⟩ := t
    rw [g.new a u q h] at ho
    cases ho
/-- a new object that stands still -/
theorem same_upd {H : Hp} {p : Addr} {o : HO} (n : H p = none) : Same H (upd H p o) := fun b u h => by
  rw [upd_ne (ne_of_none h n)]
  exact h
theorem Grow.new1 {G H : Hp} {p : Addr} {o : HO} (s : Same G H) (n : H p = none) : Grow G H (upd G p o) (upd H p o) := by
  refine ⟨same_upd n, same_upd (s.free n), fun b u h => ?_, fun b u h e => ?_⟩
  · by_cases q : b = p
    · subst q
      rw [upd_same] at h ⊢
      exact h
    · rw [upd_ne q] at h ⊢
      exact s _ _ h
  · by_cases q : b = p
    · subst q
      exact n
    · rw [upd_ne q, e] at h
      cases h
/-- a new object that does not stand still -/
theorem Grow.new0 {G H : Hp} {p : Addr} {o : HO} (s : Same G H) (n : H p = none) : Grow G H G (upd H p o) :=
  ⟨same_upd n, Same.refl _, s.trans (same_upd n), fun a o h e => by rw [h] at e; cases e⟩
/-- slots -/
theorem slot_set {α : Type} {l : List (Option α)} {i j : Nat} {x y : α} (h : (l.set i (some x))[j]? = some (some y)) : (i = j ∧ x = y) ∨ (i ≠ j ∧ l[j]? = some (some y)) := by
  by_cases e : i = j
  · subst e
    by_cases z : i < l.length
    · rw [List.getElem?_set_self z] at h
      exact .inl ⟨rfl, Option.some.inj (Option.some.inj h)⟩
    · rw [List.getElem?_eq_none (by rw [List.length_set]; omega)] at h
      cases h
  · rw [List.getElem?_set_ne e] at h
    exact .inr ⟨e, h⟩
theorem lt_of_slot {α : Type} {l : List (Option α)} {i : Nat} {y : α} (h : l[i]? = some (some y)) : i < l.length := by
  rcases Nat.lt_or_ge i l.length with z | z
  · exact z
  · rw [List.getElem?_eq_none z] at h
    cases h
section
variable {F : Fx} {io : Option Addr} {G Fr H G' H' : Hp} {σ : L2.St} {ρ : Rho}
theorem StOk.grow (S : StOk F io G Fr H σ ρ) (g : Grow G H G' H') : StOk F io G' Fr H' σ ρ := by
  refine ⟨g.sub, S.fsub.trans g.all, fun a o h => ?_, S.len, fun i p e => ?_, fun i c e => ?_, S.sep, fun a e => ?_, fun i c e => ?_, S.one⟩
  · cases q : G a with
    | some u => exact S.dis a u q
    | none => exact S.fsub.free (g.new a o h q)
  · obtain ⟨v, h1, h2⟩ := S.val i p e
    exact ⟨v, h1, h2.same g.gle⟩
  · obtain ⟨a, h1, h2, h3, h4, h5⟩ := S.own i c e
    exact ⟨a, h1, g.stays0 h2 h4.there, h3, h4.same g.gle fun o ho => g.all _ _ ho, h5⟩
  · obtain ⟨h1, h2, o, h3⟩ := S.iot a e
    exact ⟨g.stays0 h1 ⟨o, h3⟩, h2, o, g.all _ _ h3⟩
  · obtain ⟨a, h1, h2, h3⟩ := S.inp i c e
    exact ⟨a, h1, h2, h3.same g.gle fun o ho => g.all _ _ ho⟩
theorem slot_st {i j : Nat} {v : V} (h : i ≠ j) : (σ.set i (some v))[j]? = σ[j]? := List.getElem?_set_ne h
theorem StOk.set_val {i : Nat} {p : PV} {v : V} (S : StOk F io G Fr H σ ρ) (r : Rep F G p v) : StOk F io G Fr H (σ.set i (some v)) (ρ.set i (some (.val p))) := by
  refine ⟨S.sub, S.fsub, S.dis, by rw [List.length_set, List.length_set]; exact S.len, fun j q e => ?_, fun j c e => ?_, fun j k c d a e1 e2 e3 e4 => ?_, S.iot, fun j c e => ?_, fun j k c d e1 e2 => ?_⟩
  · rcases slot_set e with ⟨rfl, z⟩ | ⟨n, z⟩
    · injection z with z
      subst z
      have l : i < ρ.length := by simpa using lt_of_slot e
      exact ⟨v, List.getElem?_set_self (S.len ▸ l), r⟩
    · rw [slot_st n]
      exact S.val j q z
  · rcases slot_set e with ⟨rfl, z⟩ | ⟨n, z⟩
    · cases z
    · rw [slot_st n]
      exact S.own j c z
  · rcases slot_set e1 with ⟨rfl, z⟩ | ⟨n, z⟩
    · cases z
    · rcases slot_set e2 with ⟨rfl, z2⟩ | ⟨n2, z2⟩
      · cases z2
      · rw [slot_st n] at e3
        rw [slot_st n2] at e4
        exact S.sep j k c d a z z2 e3 e4
  · rcases slot_set e with ⟨rfl, z⟩ | ⟨n, z⟩
    · cases z
    · rw [slot_st n]
      exact S.inp j c z
  · rcases slot_set e1 with ⟨rfl, z⟩ | ⟨n, z⟩
    · cases z
    · rcases slot_set e2 with ⟨rfl, z2⟩ | ⟨n2, z2⟩
      · cases z2
      · exact S.one j k c d z z2
/-- a slot takes an object of its own, that stands in the heap, and that nothing names -/
theorem StOk.take_own {i : Nat} {c : PV} {a : Addr} (S : StOk F io G Fr H σ ρ) (nG : G a = none) (nF : Fr a = none) (nI : io ≠ some a) (old : ∀ (j : Nat) (d : PV), ρ[j]? = some (some (SV.own d)) → σ[j]? ≠ some (some (V.ref a)))
    (r : Own F G H a c) : StOk F io G Fr H (σ.set i (some (.ref a))) (ρ.set i (some (.own c))) := by
  refine ⟨S.sub, S.fsub, S.dis, by rw [List.length_set, List.length_set]; exact S.len, fun j q e => ?_, fun j d e => ?_, fun j l d d' b e1 e2 e3 e4 => ?_, S.iot, fun j d e => ?_, fun j k c d e1 e2 => ?_⟩
  · rcases slot_set e with ⟨rfl, z⟩ | ⟨n, z⟩
    · cases z
    · rw [slot_st n]
      exact S.val j q z
  · rcases slot_set e with ⟨rfl, z⟩ | ⟨n, z⟩
    · injection z with z
      subst z
      have l : i < ρ.length := by simpa using lt_of_slot e
      exact ⟨a, List.getElem?_set_self (S.len ▸ l), nG, nF, r, nI⟩
    · rw [slot_st n]
      exact S.own j d z
  · rcases slot_set e1 with ⟨rfl, z⟩ | ⟨n, z⟩
    · rcases slot_set e2 with ⟨rfl, z2⟩ | ⟨n2, z2⟩
      · rfl
      · have q : a = b := by
          rcases slot_set e3 with ⟨_, q⟩ | ⟨n3, _⟩
          · injection q
          · exact absurd rfl n3
        rw [slot_st n2] at e4
        rw [← q] at e4
        exact absurd e4 (old l d' z2)
    · rcases slot_set e2 with ⟨rfl, z2⟩ | ⟨n2, z2⟩
      · have q : a = b := by
          rcases slot_set e4 with ⟨_, q⟩ | ⟨n3, _⟩
          · injection q
          · exact absurd rfl n3
        rw [slot_st n] at e3
        rw [← q] at e3
        exact absurd e3 (old j d z)
      · rw [slot_st n] at e3
        rw [slot_st n2] at e4
        exact S.sep j l d d' b z z2 e3 e4
  · rcases slot_set e with ⟨rfl, z⟩ | ⟨n, z⟩
    · cases z
    · rw [slot_st n]
      exact S.inp j d z
  · rcases slot_set e1 with ⟨rfl, z⟩ | ⟨n, z⟩
    · cases z
    · rcases slot_set e2 with ⟨rfl, z2⟩ | ⟨n2, z2⟩
      · cases z2
      · exact S.one j k c d z z2
/-- a slot takes a new object of its own -/
theorem StOk.new_own {i : Nat} {c : PV} {a : Addr} {o : HO} (S : StOk F io G Fr H σ ρ) (n : H a = none) (r : Own F G (upd H a o) a c) :
    StOk F io G Fr (upd H a o) (σ.set i (some (.ref a))) (ρ.set i (some (.own c))) := by
  refine (S.grow (Grow.new0 S.sub n)).take_own (S.sub.free n) (S.fsub.free n) (fun e => ?_) (fun j d e h => ?_) r
  · obtain ⟨_, _, o, h⟩ := S.iot a e
    rw [n] at h
    cases h
  · obtain ⟨b, h1, _, _, h4, _⟩ := S.own j d e
    rw [h] at h1
    cases h1
    obtain ⟨u, hu⟩ := h4.there
    rw [n] at hu
    cases hu
/-- a slot is forgotten -/
theorem slot_none {α : Type} {l : List (Option α)} {i j : Nat} {y : α} (h : (l.set i none)[j]? = some (some y)) : i ≠ j ∧ l[j]? = some (some y) := by
  by_cases e : i = j
  · subst e
    by_cases z : i < l.length
    · rw [List.getElem?_set_self z] at h
      cases h
    · rw [List.getElem?_eq_none (by rw [List.length_set]; omega)] at h
      cases h
  · rw [List.getElem?_set_ne e] at h
    exact ⟨e, h⟩
theorem StOk.wipe1 {i : Nat} {w : Option V} (S : StOk F io G Fr H σ ρ) : StOk F io G Fr H (σ.set i w) (ρ.set i none) := by
  refine ⟨S.sub, S.fsub, S.dis, by rw [List.length_set, List.length_set]; exact S.len, fun j q e => ?_, fun j d e => ?_, fun j l d d' b e1 e2 e3 e4 => ?_, S.iot, fun j d e => ?_, fun j k c d e1 e2 => ?_⟩
  · obtain ⟨n, z⟩ := slot_none e
    rw [List.getElem?_set_ne n]
    exact S.val j q z
  · obtain ⟨n, z⟩ := slot_none e
    rw [List.getElem?_set_ne n]
    exact S.own j d z
  · obtain ⟨n, z⟩ := slot_none e1
    obtain ⟨n2, z2⟩ := slot_none e2
    rw [List.getElem?_set_ne n] at e3
    rw [List.getElem?_set_ne n2] at e4
    exact S.sep j l d d' b z z2 e3 e4
  · obtain ⟨n, z⟩ := slot_none e
    rw [List.getElem?_set_ne n]
    exact S.inp j d z
  · exact S.one j k c d (slot_none e1).2 (slot_none e2).2
end
end Pl

set_option maxHeartbeats 4000000
/-! P1: meanings of expressions, tests, argument lists; the rules that give them. -/
namespace Pl
open PySem PySem.Spec PyProof.Rows L2

inductive Res (α : Type) where
  | ok (a : α) (ρ : Rho)
  | exc (c : Nat) (as : List PV) (ρ : Rho)
  | stuck
abbrev DD (α : Type) := Rho → Res α
abbrev DE := DD PV
def Res.bind {α β : Type} (r : Res α) (k : α → Rho → Res β) : Res β := match r with
  | .ok a ρ => k a ρ
  | .exc c as ρ => .exc c as ρ
  | .stuck => .stuck
def ofO {α : Type} (o : Option α) (ρ : Rho) : Res α := match o with
  | some a => .ok a ρ
  | none => .stuck

/-- how an error lies: its own dict holds its attributes -/
def ExcAt (F : Fx) (G H : Hp) (c : Nat) (as : List PV) (d : Option Addr) : Prop := match as with
  | [] => d = none
  | a :: r => ∃ p fs, d = some p ∧ H p = some (.xd fs) ∧ fs.map (·.1) = F.fld c ∧ Reps F G (a :: r) (fs.map (·.2))

section
variable {α β γ δ : Type}
/-- what must hold so that an expression with this meaning ends as wanted -/
def Post (R : Hp → α → β → Prop) (F : Fx) (io : Option Addr) (W : WX) (Fr G : Hp) (σ : L2.St) (Q : β → Hp → Prop) : Res α → Prop
  | .ok r ρ => ∀ v G' H', Same G G' → StOk F io G' Fr H' σ ρ → R G' r v → Q v H'
  | .exc c as ρ => ∀ d G' H', Same G G' → StOk F io G' Fr H' σ ρ → ExcAt F G' H' c as d → W (.ref (F.cls c)) d σ H'
  | .stuck => False
def tD (R : Hp → α → β → Prop) (F : Fx) (io : Option Addr) (W : WX) (d : DD α) : L2.St → Hp → (β → Hp → Prop) → Prop := fun σ H Q =>
  ∃ G Fr ρ, StOk F io G Fr H σ ρ ∧ Post R F io W Fr G σ Q (d ρ)
abbrev RB : Hp → Bool → Bool → Prop := fun _ a b => a = b
def tE (F : Fx) (io : Option Addr) (W : WX) (d : DE) : TE := tD (Rep F) F io W d
def tT (F : Fx) (io : Option Addr) (W : WX) (d : DD Bool) : TT := tD RB F io W d
def tA (F : Fx) (io : Option Addr) (W : WX) (d : DD (List PV)) : TA := tD (Reps F) F io W d
variable {R : Hp → α → β → Prop} {R' : Hp → γ → δ → Prop} {F : Fx} {io : Option Addr} {W : WX} {Fr G G' H : Hp} {σ : L2.St} {ρ : Rho}
theorem Post.gle {Q : β → Hp → Prop} (e : Same G G') : ∀ {r : Res α}, Post R F io W Fr G σ Q r → Post R F io W Fr G' σ Q r
  | .ok r ρ, h => fun v G1 H1 e1 => h v G1 H1 (e.trans e1)
  | .exc c as ρ, h => fun d G1 H1 e1 => h d G1 H1 (e.trans e1)
  | .stuck, h => h
/-- one part is done, the rest is left -/
theorem tD.step {d : DD α} {k : α → Rho → Res γ} {Q : δ → Hp → Prop} {Q1 : β → Hp → Prop} (S : StOk F io G Fr H σ ρ) (h : Post R' F io W Fr G σ Q ((d ρ).bind k))
    (f : ∀ v H1 G1 ρ1 x, Same G G1 → StOk F io G1 Fr H1 σ ρ1 → R G1 x v → Post R' F io W Fr G1 σ Q (k x ρ1) → Q1 v H1) : tD R F io W d σ H Q1 := by
  refine ⟨G, Fr, ρ, S, ?_⟩
  cases e : d ρ with
  | ok x ρ1 =>
    intro v G1 H1 e1 S1 r1
    rw [e] at h
    exact f v H1 G1 ρ1 x e1 S1 r1 (Post.gle e1 h)
  | exc c as ρ1 =>
    rw [e] at h
    exact h
  | stuck =>
    rw [e] at h
    exact h
theorem Post.done {a : α} {v : β} {Q : β → Hp → Prop} (h : Post R F io W Fr G σ Q (.ok a ρ)) (S : StOk F io G Fr H σ ρ) (r : R G a v) : Q v H := h v G H (Same.refl _) S r
end

theorem _root_.L2.PE.imp {X : Cx} {e : Expr} {t t' : TE} (h : PE X e t) (i : ∀ σ H Q, t' σ H Q → t σ H Q) : PE X e t' := ⟨fun pins s σ H Q I w => h.run pins s σ H Q I (i σ H Q w)⟩
theorem _root_.L2.PT.imp {X : Cx} {e : Expr} {t t' : TT} (h : PT X e t) (i : ∀ σ H Q, t' σ H Q → t σ H Q) : PT X e t' := ⟨fun pins s σ H Q I w => h.run pins s σ H Q I (i σ H Q w)⟩
theorem _root_.L2.PW.imp {X : Cx} {e : Expr} {t t' : TT} (h : PW X e t) (i : ∀ σ H Q, t' σ H Q → t σ H Q) : PW X e t' := ⟨fun wh pins s σ H Q I w => h.run wh pins s σ H Q I (i σ H Q w)⟩
theorem _root_.L2.PA.imp {X : Cx} {es : List Expr} {t t' : TA} (h : PA X es t) (i : ∀ σ H Q, t' σ H Q → t σ H Q) : PA X es t' := ⟨fun pos pins s σ H Q I w => h.run pos pins s σ H Q I (i σ H Q w)⟩

section
variable {X : Cx} {F : Fx} {io : Option Addr} {W : WX} {a b c e : Expr} {es : List Expr} {pos : Pos}

/-! ### names, constants -/
def dVar (i : Nat) : DE := fun ρ => match ρ[i]? with
  | some (some (.val p)) => .ok p ρ
  | _ => .stuck
def dC (p : PV) : DE := fun ρ => .ok p ρ
theorem pp_var {i : Nat} {x : Str} (h : PE X (.Name x pos) (tVar i)) : PE X (.Name x pos) (tE F io W (dVar i)) := by
  refine h.imp fun σ H Q ⟨G, Fr, ρ, S, p⟩ => ?_
  unfold dVar at p
  cases e : ρ[i]? with
  | none => rw [e] at p; exact p.elim
  | some o =>
    cases o with
    | none => rw [e] at p; exact p.elim
    | some sv =>
      cases sv with
      | val q =>
        rw [e] at p
        obtain ⟨v, h1, h2⟩ := S.val i q e
        exact ⟨v, h1, p.done S h2⟩
      | own q => rw [e] at p; exact p.elim
      | inp q => rw [e] at p; exact p.elim
theorem pp_c {v : V} {p : PV} (h : PE X e (tC v)) (r : ∀ G, Rep F G p v) : PE X e (tE F io W (dC p)) :=
  h.imp fun σ H Q ⟨G, Fr, ρ, S, q⟩ => Post.done (v := v) q S (r G)
theorem pp_int {i : Int} {j} : PE X (.Constant (.int i) j pos) (tE F io W (dC (.int i))) := pp_c pe_int fun _ => .int i
theorem pp_bl {k : Bool} {j} : PE X (.Constant (.bool k) j pos) (tE F io W (dC (.bl k))) := pp_c pe_bl fun _ => .bl k
theorem pp_non {j} : PE X (.Constant .none j pos) (tE F io W (dC .non)) := pp_c pe_non fun _ => .non
theorem pp_str {x : Str} {j} : PE X (.Constant (.str x) j pos) (tE F io W (dC (.str x))) := pp_c pe_str fun _ => .str x

/-! ### argument lists -/
def dNil : DD (List PV) := fun ρ => .ok [] ρ
def dCons (d : DE) (r : DD (List PV)) : DD (List PV) := fun ρ => (d ρ).bind fun x ρ => (r ρ).bind fun xs ρ => .ok (x :: xs) ρ
theorem pq_nil : PA X [] (tA F io W dNil) := pa_nil.imp fun σ H Q ⟨G, Fr, ρ, S, q⟩ => q.done S .nil
theorem pq_cons {d : DE} {r : DD (List PV)} (ha : PE X e (tE F io W d)) (hr : PA X es (tA F io W r)) (hs : starEach (e :: es) X.env = (false, eval e X.env) :: starEach es X.env := by rfl) : PA X (e :: es) (tA F io W (dCons d r)) := by
  refine (pa_cons ha hr hs).imp fun σ H Q ⟨G, Fr, ρ, S, q⟩ => ?_
  exact tD.step S q fun v H1 G1 ρ1 x e1 S1 r1 q1 => tD.step S1 q1 fun vs H2 G2 ρ2 xs e2 S2 r2 q2 => q2.done S2 (.cons (r1.same e2) r2)
/-! ### displays -/
def dTup (d : DD (List PV)) : DE := fun ρ => (d ρ).bind fun xs ρ => if xs.length ≤ 1000 then .ok (.tup xs) ρ else .stuck
def dLst (d : DD (List PV)) : DE := fun ρ => (d ρ).bind fun xs ρ => if xs.length ≤ 1000 then .ok (.lst xs) ρ else .stuck
theorem line1000 {n : Nat} (h : n ≤ 1000) : n ≤ sizeLine := Nat.le_trans h (by decide)
theorem pp_tup {d : DD (List PV)} {j} (h : PA X es (tA F io W d)) : PE X (.Tuple es j pos) (tE F io W (dTup d)) := by
  refine (pe_tup h).imp fun σ H Q ⟨G, Fr, ρ, S, q⟩ => ?_
  refine tD.step S q fun vs H1 G1 ρ1 xs e1 S1 r1 q1 => ?_
  by_cases l : xs.length ≤ 1000
  · rw [if_pos l] at q1
    refine ⟨by rw [← r1.length]; exact line1000 l, fun p n => ?_⟩
    exact q1 _ _ _ (same_upd (S1.sub.free n)) (S1.grow (Grow.new1 S1.sub n)) (.tup (.inl (.inl upd_same)) (r1.same (same_upd (S1.sub.free n))))
  · rw [if_neg l] at q1
    exact q1.elim
theorem pp_lst {d : DD (List PV)} (h : PA X es (tA F io W d)) : PE X (.List es pos) (tE F io W (dLst d)) := by
  refine (pe_lst h).imp fun σ H Q ⟨G, Fr, ρ, S, q⟩ => ?_
  refine tD.step S q fun vs H1 G1 ρ1 xs e1 S1 r1 q1 => ?_
  by_cases l : xs.length ≤ 1000
  · rw [if_pos l] at q1
    refine ⟨by rw [← r1.length]; exact line1000 l, fun p n => ?_⟩
    exact q1 _ _ _ (same_upd (S1.sub.free n)) (S1.grow (Grow.new1 S1.sub n)) (.lst upd_same (r1.same (same_upd (S1.sub.free n))))
  · rw [if_neg l] at q1
    exact q1.elim

/-! ### operators -/
def dBin (f : PV → PV → Option PV) (da db : DE) : DE := fun ρ => (da ρ).bind fun x ρ => (db ρ).bind fun y ρ => ofO (f x y) ρ
def dUn (f : PV → Option PV) (da : DE) : DE := fun ρ => (da ρ).bind fun x ρ => ofO (f x) ρ
/-- a rule by values is told by a plain function -/
def BinOk (F : Fx) (r : R2) (f : PV → PV → Option PV) : Prop := ∀ (G H : Hp) (v u : V) (x y z : PV) (Q : VK), Same G H → Rep F G x v → Rep F G y u → f x y = some z →
  (∀ v' G' H', Grow G H G' H' → Rep F G' z v' → Q v' H') → r v u H Q
def UnOk (F : Fx) (r : V → Hp → VK → Prop) (f : PV → Option PV) : Prop := ∀ (G H : Hp) (v : V) (x z : PV) (Q : VK), Same G H → Rep F G x v → f x = some z →
  (∀ v' G' H', Grow G H G' H' → Rep F G' z v' → Q v' H') → r v H Q
theorem Post.ofO {α β γ : Type} {R : Hp → α → β → Prop} {Fr G H : Hp} {σ : L2.St} {ρ : Rho} {o : Option α} {Q : β → Hp → Prop} (h : Post R F io W Fr G σ Q (ofO o ρ)) (S : StOk F io G Fr H σ ρ) :
    ∃ z, o = some z ∧ ∀ v' G' H', Grow G H G' H' → R G' z v' → Q v' H' := by
  cases o with
  | none => exact h.elim
  | some z => exact ⟨z, rfl, fun v' G' H' g r => h v' G' H' g.gle (S.grow g) r⟩
theorem bin_step {r : R2} {f : PV → PV → Option PV} {da db : DE} (hb : BinOk F r f) {σ : L2.St} {H : Hp} {Q : VK} (h : tE F io W (dBin f da db) σ H Q) : tOp r (tE F io W da) (tE F io W db) σ H Q := by
  obtain ⟨G, Fr, ρ, S, q⟩ := h
  refine tD.step S q fun v H1 G1 ρ1 x e1 S1 r1 q1 => tD.step S1 q1 fun u H2 G2 ρ2 y e2 S2 r2 q2 => ?_
  obtain ⟨z, hz, k⟩ := Post.ofO (γ := Unit) q2 S2
  exact hb G2 H2 v u x y z Q S2.sub (r1.same e2) r2 hz k
theorem pp_op {op : Operator} {r : R2} {f : PV → PV → Option PV} {da db : DE} (ho : OpR X (binaryOp op) r) (hb : BinOk F r f) (h1 : PE X a (tE F io W da)) (h2 : PE X b (tE F io W db)) : PE X (.BinOp a op b pos) (tE F io W (dBin f da db)) :=
  (pe_op ho h1 h2).imp fun _ _ _ h => bin_step hb h
theorem pp_cmp {op : CmpOp} {r : R2} {f : PV → PV → Option PV} {da db : DE} (ho : OpR X (compareOp op) r) (hb : BinOk F r f) (h1 : PE X a (tE F io W da)) (h2 : PE X b (tE F io W db)) (hm : behindInMarks op b = false) : PE X (.Compare a [op] [b] pos) (tE F io W (dBin f da db)) :=
  (pe_cmpR ho h1 h2 hm).imp fun _ _ _ h => bin_step hb h
theorem pp_un {op : UnaryOp} {r : V → Hp → VK → Prop} {f : PV → Option PV} {da : DE} (ho : UnR X (unaryOp op) r) (hb : UnOk F r f) (h1 : PE X a (tE F io W da)) : PE X (.UnaryOp op a pos) (tE F io W (dUn f da)) := by
  refine (pe_un ho h1).imp fun σ H Q ⟨G, Fr, ρ, S, q⟩ => ?_
  refine tD.step S q fun v H1 G1 ρ1 x e1 S1 r1 q1 => ?_
  obtain ⟨z, hz, k⟩ := Post.ofO (γ := Unit) q1 S1
  exact hb G1 H1 v x z Q S1.sub r1 hz k

/-! ### tests -/
/-- a value that is True or False -/
def asB : PV → Option Bool
  | .bl b => some b
  | _ => none
/-- the truth of a value -/
def truth : PV → Option Bool
  | .non => some false
  | .bl b => some b
  | .int i => some (i != 0)
  | .str x => if x.length ≤ 1000000 then some ((x.length : Int) != 0) else none
  | .tup xs => some !xs.isEmpty
  | .lst xs => some !xs.isEmpty
  | _ => none
def dTru (d : DE) : DD Bool := fun ρ => (d ρ).bind fun x ρ => ofO (truth x) ρ
def dAsB (d : DE) : DD Bool := fun ρ => (d ρ).bind fun x ρ => ofO (asB x) ρ
theorem isEmpty_reps {G : Hp} : ∀ {ps : List PV} {vs : List V}, Reps F G ps vs → ps.isEmpty = vs.isEmpty
  | _, _, .nil => rfl
  | _, _, .cons _ _ => rfl
theorem tru_of {K : PySem.W.Frag} {G H : Hp} {x : PV} {v : V} {k : Bool} (hK : F.K = K) (s : Same G H) (r : Rep F G x v) (h : truth x = some k) : TruV K v H k := by
  subst hK
  cases r with
  | non => cases h; rfl
  | bl b => cases h; rfl
  | int i => cases h; rfl
  | str x =>
    have h : (if x.length ≤ 1000000 then some ((x.length : Int) != 0) else none) = some k := h
    by_cases l : x.length ≤ 1000000
    · rw [if_pos l] at h
      cases h
      exact ⟨Nat.le_trans l (by decide), rfl⟩
    · rw [if_neg l] at h
      cases h
  | tup q r => cases h; exact .inr (.inl ⟨_, SqT.same s q, by rw [isEmpty_reps r]⟩)
  | lst q r => cases h; exact .inl ⟨_, .of (s _ _ q), by rw [isEmpty_reps r]⟩
  | dK => cases h
  | dT => cases h
  | ins => cases h
  | scr => cases h
/-- an expression (no comparison, and, or, not) as a test -/
theorem pt_tru {d : DE} (hK : F.K = X.K) (h : PE X a (tE F io W d)) (he : ∀ whole, isTrue a X.env whole = (do let v ← whole; standAt a.pos; holding [v] (truthy v)) := by intro _; rfl) : PT X a (tT F io W (dTru d)) := by
  refine (pt_truth h he).imp fun σ H Q ⟨G, Fr, ρ, S, q⟩ => ?_
  refine tD.step S q fun v H1 G1 ρ1 x e1 S1 r1 q1 => ?_
  obtain ⟨k, hk, kk⟩ := Post.ofO (γ := Unit) q1 S1
  exact ⟨k, tru_of hK S1.sub r1 hk, kk k G1 H1 (Grow.refl S1.sub) rfl⟩
theorem asB_bl {G : Hp} {x : PV} {v : V} {k : Bool} (r : Rep F G x v) (h : asB x = some k) : v = .bl k := by
  cases r with
  | bl b => cases h; rfl
  | _ => cases h
theorem pt_cmp' {op : CmpOp} {r : R2} {f : PV → PV → Option PV} {da db : DE} (ho : OpR X (compareOp op) r) (hb : BinOk F r f) (h1 : PE X a (tE F io W da)) (h2 : PE X b (tE F io W db)) (hm : behindInMarks op b = false) : PT X (.Compare a [op] [b] pos) (tT F io W (dAsB (dBin f da db))) := by
  refine (pt_cmpR ho h1 h2 hm).imp fun σ H Q ⟨G, Fr, ρ, S, q⟩ => ?_
  refine bin_step (F := F) (io := io) (W := W) hb ?_
  refine tD.step S q fun v H1 G1 ρ1 x e1 S1 r1 q1 => ?_
  obtain ⟨k, hk, kk⟩ := Post.ofO (γ := Unit) q1 S1
  exact ⟨k, asB_bl r1 hk, kk k G1 H1 (Grow.refl S1.sub) rfl⟩
def dNot (d : DD Bool) : DD Bool := fun ρ => (d ρ).bind fun k ρ => .ok (!k) ρ
def dAnd (d u : DD Bool) : DD Bool := fun ρ => (d ρ).bind fun k ρ => if k = true then u ρ else .ok false ρ
def dOr (d u : DD Bool) : DD Bool := fun ρ => (d ρ).bind fun k ρ => if k = true then .ok true ρ else u ρ
theorem qt_not {d : DD Bool} (h : PT X a (tT F io W d)) : PT X (.UnaryOp .Not a pos) (tT F io W (dNot d)) := by
  refine (pt_not h).imp fun σ H Q ⟨G, Fr, ρ, S, q⟩ => ?_
  exact tD.step S q fun v H1 G1 ρ1 x e1 S1 r1 q1 => q1 (!v) G1 H1 (Same.refl _) S1 (by rw [show x = v from r1])
theorem qw_and1 {d : DD Bool} (h : PT X a (tT F io W d)) : PW X (.BoolOp .And [a] pos) (tT F io W d) := pw_and1 h
theorem qw_or1 {d : DD Bool} (h : PT X a (tT F io W d)) : PW X (.BoolOp .Or [a] pos) (tT F io W d) := pw_or1 h
theorem qw_and {d u : DD Bool} (h : PT X a (tT F io W d)) (h2 : PW X (.BoolOp .And (b :: es) pos) (tT F io W u)) : PW X (.BoolOp .And (a :: b :: es) pos) (tT F io W (dAnd d u)) := by
  refine (pw_and h h2).imp fun σ H Q ⟨G, Fr, ρ, S, q⟩ => ?_
  refine tD.step S q fun v H1 G1 ρ1 x e1 S1 r1 q1 => ?_
  have r1 : x = v := r1
  subst r1
  cases x with
  | true =>
    rw [if_pos rfl] at q1 ⊢
    exact ⟨G1, Fr, ρ1, S1, q1⟩
  | false =>
    rw [if_neg Bool.false_ne_true] at q1 ⊢
    exact q1.done S1 rfl
theorem qw_or {d u : DD Bool} (h : PT X a (tT F io W d)) (h2 : PW X (.BoolOp .Or (b :: es) pos) (tT F io W u)) : PW X (.BoolOp .Or (a :: b :: es) pos) (tT F io W (dOr d u)) := by
  refine (pw_or h h2).imp fun σ H Q ⟨G, Fr, ρ, S, q⟩ => ?_
  refine tD.step S q fun v H1 G1 ρ1 x e1 S1 r1 q1 => ?_
  have r1 : x = v := r1
  subst r1
  cases x with
  | true =>
    rw [if_pos rfl] at q1 ⊢
    exact q1.done S1 rfl
  | false =>
    rw [if_neg Bool.false_ne_true] at q1 ⊢
    exact ⟨G1, Fr, ρ1, S1, q1⟩
/-! ### .. as values -/
def dAndV (d u : DE) : DE := fun ρ => (d ρ).bind fun x ρ => match x with
  | .bl true => u ρ
  | .bl false => .ok (.bl false) ρ
  | _ => .stuck
def dOrV (d u : DE) : DE := fun ρ => (d ρ).bind fun x ρ => match x with
  | .bl true => .ok (.bl true) ρ
  | .bl false => u ρ
  | _ => .stuck
def dNotV (d : DE) : DE := fun ρ => (d ρ).bind fun x ρ => match x with
  | .bl k => .ok (.bl (!k)) ρ
  | _ => .stuck
theorem pp_one {op : BoolOp} {d : DE} (h : PE X a (tE F io W d)) : PE X (.BoolOp op [a] pos) (tE F io W d) := pe_one h
theorem pp_and {d u : DE} (h : PE X a (tE F io W d)) (h2 : PE X (.BoolOp .And (b :: es) pos) (tE F io W u)) : PE X (.BoolOp .And (a :: b :: es) pos) (tE F io W (dAndV d u)) := by
  refine (pe_and h h2).imp fun σ H Q ⟨G, Fr, ρ, S, q⟩ => ?_
  refine tD.step S q fun v H1 G1 ρ1 x e1 S1 r1 q1 => ?_
  cases r1 with
  | bl k =>
    cases k with
    | true => exact ⟨true, rfl, by rw [if_pos rfl]; exact ⟨G1, Fr, ρ1, S1, q1⟩⟩
    | false => exact ⟨false, rfl, by rw [if_neg Bool.false_ne_true]; exact q1.done S1 (.bl false)⟩
  | _ => exact q1.elim
theorem pp_or {d u : DE} (h : PE X a (tE F io W d)) (h2 : PE X (.BoolOp .Or (b :: es) pos) (tE F io W u)) : PE X (.BoolOp .Or (a :: b :: es) pos) (tE F io W (dOrV d u)) := by
  refine (pe_or h h2).imp fun σ H Q ⟨G, Fr, ρ, S, q⟩ => ?_
  refine tD.step S q fun v H1 G1 ρ1 x e1 S1 r1 q1 => ?_
  cases r1 with
  | bl k =>
    cases k with
    | true => exact ⟨true, rfl, by rw [if_pos rfl]; exact q1.done S1 (.bl true)⟩
    | false => exact ⟨false, rfl, by rw [if_neg Bool.false_ne_true]; exact ⟨G1, Fr, ρ1, S1, q1⟩⟩
  | _ => exact q1.elim
theorem pp_not {d : DE} (h : PE X a (tE F io W d)) : PE X (.UnaryOp .Not a pos) (tE F io W (dNotV d)) := by
  refine (pe_not h).imp fun σ H Q ⟨G, Fr, ρ, S, q⟩ => ?_
  refine tD.step S q fun v H1 G1 ρ1 x e1 S1 r1 q1 => ?_
  cases r1 with
  | bl k => exact ⟨k, rfl, q1.done S1 (.bl (!k))⟩
  | _ => exact q1.elim
/-- a if t else b -/
def dIf (t : DD Bool) (d u : DE) : DE := fun ρ => (t ρ).bind fun k ρ => if k = true then d ρ else u ρ
theorem pp_if {t : DD Bool} {d u : DE} (hc : PT X c (tT F io W t)) (h : PE X a (tE F io W d)) (h2 : PE X b (tE F io W u)) : PE X (.IfExp c a b pos) (tE F io W (dIf t d u)) := by
  refine (pe_ifExp hc h h2).imp fun σ H Q ⟨G, Fr, ρ, S, q⟩ => ?_
  refine tD.step S q fun v H1 G1 ρ1 x e1 S1 r1 q1 => ?_
  have r1 : x = v := r1
  subst r1
  cases x with
  | true =>
    rw [if_pos rfl] at q1 ⊢
    exact ⟨G1, Fr, ρ1, S1, q1⟩
  | false =>
    rw [if_neg Bool.false_ne_true] at q1 ⊢
    exact ⟨G1, Fr, ρ1, S1, q1⟩
/-- a < b < c -/
def dChain (f g : PV → PV → Option PV) (da db dc : DE) : DE := fun ρ => (da ρ).bind fun x ρ => (db ρ).bind fun y ρ => match f x y with
  | some (.bl true) => (dc ρ).bind fun z ρ => ofO (g y z) ρ
  | some (.bl false) => .ok (.bl false) ρ
  | _ => .stuck
/-- a comparison that yields a bool and changes nothing -/
def CmpOk (F : Fx) (r : R2) (f : PV → PV → Option PV) : Prop := ∀ (G H : Hp) (v u : V) (x y z : PV) (Q : VK), Same G H → Rep F G x v → Rep F G y u → f x y = some z → ∃ k, z = .bl k ∧ (Q (.bl k) H → r v u H Q)
theorem CmpOk.bin {r : R2} {f : PV → PV → Option PV} (h : CmpOk F r f) : BinOk F r f := fun G H v u x y z Q s rx ry e k => by
  obtain ⟨b, rfl, q⟩ := h G H v u x y z Q s rx ry e
  exact q (k _ G H (Grow.refl s) (.bl b))
theorem chain_step {r r' : R2} {f g : PV → PV → Option PV} {da db dc : DE} (hb : CmpOk F r f) (hb' : BinOk F r' g) {σ : L2.St} {H : Hp} {Q : VK} (h : tE F io W (dChain f g da db dc) σ H Q) :
    tChain r r' (tE F io W da) (tE F io W db) (tE F io W dc) σ H Q := by
  obtain ⟨G, Fr, ρ, S, q⟩ := h
  refine tD.step S q fun v H1 G1 ρ1 x e1 S1 r1 q1 => tD.step S1 q1 fun u H2 G2 ρ2 y e2 S2 r2 q2 => ?_
  cases e : f x y with
  | none => rw [e] at q2; exact q2.elim
  | some z =>
    obtain ⟨k, rfl, kk⟩ := hb G2 H2 v u x y z (fun z H3 => ∃ k, z = .bl k ∧ (if k = true then (tE F io W dc) σ H3 fun w' H4 => r' u w' H4 Q else Q (.bl false) H3)) S2.sub (r1.same e2) r2 e
    rw [e] at q2
    refine kk ⟨k, rfl, ?_⟩
    cases k with
    | true =>
      rw [if_pos rfl]
      refine tD.step S2 q2 fun w H3 G3 ρ3 z e3 S3 r3 q3 => ?_
      obtain ⟨z', hz, k'⟩ := Post.ofO (γ := Unit) q3 S3
      exact hb' G3 H3 u w y z z' Q S3.sub (r2.same e3) r3 hz k'
    | false =>
      rw [if_neg Bool.false_ne_true]
      exact q2.done S2 (.bl false)
theorem pp_chain {op op' : CmpOp} {r r' : R2} {f g : PV → PV → Option PV} {da db dc : DE} (ho : OpR X (compareOp op) r) (ho' : OpR X (compareOp op') r') (hb : CmpOk F r f) (hb' : BinOk F r' g) (h1 : PE X a (tE F io W da)) (h2 : PE X b (tE F io W db)) (h3 : PE X c (tE F io W dc))
    (hm : lastMarks [op, op'] [b, c] = false := by with_unfolding_all rfl) : PE X (.Compare a [op, op'] [b, c] pos) (tE F io W (dChain f g da db dc)) :=
  (pe_chain ho ho' h1 h2 h3 hm).imp fun _ _ _ h => chain_step hb hb' h
theorem qt_chain {op op' : CmpOp} {r r' : R2} {f g : PV → PV → Option PV} {da db dc : DE} (ho : OpR X (compareOp op) r) (ho' : OpR X (compareOp op') r') (hb : CmpOk F r f) (hb' : BinOk F r' g) (h1 : PE X a (tE F io W da)) (h2 : PE X b (tE F io W db)) (h3 : PE X c (tE F io W dc))
    (hm : lastMarks [op, op'] [b, c] = false := by with_unfolding_all rfl) : PT X (.Compare a [op, op'] [b, c] pos) (tT F io W (dAsB (dChain f g da db dc))) := by
  refine (pt_chain ho ho' h1 h2 h3 hm).imp fun σ H Q ⟨G, Fr, ρ, S, q⟩ => ?_
  refine chain_step (F := F) (io := io) (W := W) hb hb' ?_
  refine tD.step S q fun v H1 G1 ρ1 x e1 S1 r1 q1 => ?_
  obtain ⟨k, hk, kk⟩ := Post.ofO (γ := Unit) q1 S1
  exact ⟨k, asB_bl r1 hk, kk k G1 H1 (Grow.refl S1.sub) rfl⟩

/-! ### calls of the text's own defs -/
/-- what a def hands back -/
inductive FR where
  | ok (p : PV)
  | exc (c : Nat) (as : List PV)
  | stuck
/-- a def of n parameters that changes nothing does what φ says -/
def spP (F : Fx) (n : Nat) (φ : List PV → FR) : Sp := fun vs H Q E => vs.length = n ∧ ∃ G ps, Same G H ∧ Reps F G ps vs ∧ match φ ps with
  | .ok r => ∀ v G' H', Grow G H G' H' → Rep F G' r v → Q v H'
  | .exc c as => ∀ d G' H', Grow G H G' H' → ExcAt F G' H' c as d → E (.ref (F.cls c)) d H'
  | .stuck => False
class LenA (d : DD (List PV)) (n : outParam Nat) : Prop where
  len : ∀ ρ xs ρ', d ρ = .ok xs ρ' → xs.length = n
instance : LenA dNil 0 := ⟨fun ρ xs ρ' h => by cases h; rfl⟩
instance {d : DE} {r : DD (List PV)} {n : Nat} [L : LenA r n] : LenA (dCons d r) (n + 1) := ⟨fun ρ xs ρ' h => by
  unfold dCons at h
  cases e : d ρ with
  | ok x ρ1 =>
    rw [e] at h
    have h : (r ρ1).bind (fun xs ρ => Res.ok (x :: xs) ρ) = .ok xs ρ' := h
    cases e2 : r ρ1 with
    | ok ys ρ2 =>
      rw [e2] at h
      cases h
      exact congrArg (· + 1) (L.len _ _ _ e2)
    | exc c as ρ2 => rw [e2] at h; cases h
    | stuck => rw [e2] at h; cases h
  | exc c as ρ1 => rw [e] at h; cases h
  | stuck => rw [e] at h; cases h⟩
def dCall (φ : List PV → FR) (d : DD (List PV)) : DE := fun ρ => (d ρ).bind fun xs ρ => match φ xs with
  | .ok r => .ok r ρ
  | .exc c as => .exc c as ρ
  | .stuck => .stuck
theorem pp_call {k : Nat} {f : Addr} {fd : FuncData} {ps : List Str} {φ : List PV → FR} {x : Str} {p : Pos} {d : DD (List PV)} (n : Nat) (tk : Takes X W) (G : FnOk X.prog X.w X.K X.mg X.base (CX X.prog X.w) k f fd ps (spP F n φ)) (hr : Room k X.A) (hm : X.mg x = some (.ref f))
    (hk : PySem.W.keepIn X.K (.ref f) = true) (hb : Binds X.K fd ps []) (hl : ps.length = n) (hg : Gl X x) (ha : PA X (e :: es) (tA F io W d)) (hn : (e :: es).length = n := by rfl) (hdb : (x == ("__debug__" : Str)) = false := by decide)
    (he : starEach (e :: es) X.env = (false, eval e X.env) :: starEach es X.env := by rfl) (hpl : (backTo pos (starEach es X.env)).any (·.1) = false := by rfl) [L : LenA d n] :
    PE X (.Call (.Name x p) (e :: es) [] pos) (tE F io W (dCall φ d)) := by
  refine (pe_callS (E := fun σ => WE W σ) G hr hg hm hk hb (fun σ => passAt tk σ) ha hdb he hpl).imp fun σ H Q ⟨G, Fr, ρ, S, q⟩ => ?_
  refine ⟨G, Fr, ρ, S, ?_⟩
  have q : Post (Rep F) F io W Fr G σ Q ((d ρ).bind fun xs ρ => match φ xs with
    | .ok r => .ok r ρ
    | .exc c as => .exc c as ρ
    | .stuck => .stuck) := q
  cases ed : d ρ with
  | stuck => rw [ed] at q; exact q
  | exc c as ρ1 => rw [ed] at q; exact q
  | ok xs ρ1 =>
    rw [ed] at q
    intro vs G1 H1 e1 S1 r1
    refine ⟨by rw [← r1.length]; exact L.len _ _ _ ed, G1, xs, S1.sub, r1, ?_⟩
    have q : Post (Rep F) F io W Fr G σ Q (match φ xs with
      | .ok r => .ok r ρ1
      | .exc c as => .exc c as ρ1
      | .stuck => .stuck) := q
    cases ef : φ xs with
    | ok r =>
      rw [ef] at q
      exact fun v G2 H2 g r2 => q v G2 H2 (e1.trans g.gle) (S1.grow g) r2
    | exc c as =>
      rw [ef] at q
      exact fun dd G2 H2 g x2 => q dd G2 H2 (e1.trans g.gle) (S1.grow g) x2
    | stuck => rw [ef] at q; exact q
end
end Pl

set_option maxHeartbeats 4000000
/-! P2: operators, comparisons, subscripts, slices of plain values. -/
namespace Pl
open PySem PySem.Spec PyProof.Rows L2

/-! ### data -/
mutual
def pdt : PV → PyData
  | .non => .none
  | .bl b => .bool b
  | .int i => .int i
  | .str x => .str x
  | .tup xs => .tuple (pdts xs)
  | .lst xs => .list (pdts xs)
  | .dct _ _ => .dict []
  | .dks _ _ => .dict []
  | .ins _ _ => .dict []
  | .scr _ => .dict []
def pdts : List PV → List PyData
  | [] => []
  | x :: xs => pdt x :: pdts xs
end
section
variable {F : Fx} {G H : Hp} {K : PySem.W.Frag}
mutual
theorem dp_of (s : Same G H) : ∀ {p : PV} {v : V}, Rep F G p v → SeqAt.shaped (pdt p) = true ∨ (pdt p).canLay0 = true → Dp F.K H v (pdt p)
  | _, _, .non, _ => .non
  | _, _, .bl b, _ => .bl b
  | _, _, .int i, _ => .int i
  | _, _, .str x, _ => .str x
  | _, _, .tup h r, c => .tup (SqT.same s h) (dps_of s r (by rcases c with c | c; exact SeqAt.canLay_of_shaped c; exact c))
  | _, _, .lst h r, c => .lst (.of (s _ _ h)) (dps_of s r (by rcases c with c | c; exact SeqAt.canLay_of_shaped c; exact c))
  | _, _, .scr h, c => by rcases c with c | c <;> cases c
  | _, _, .dK h k r, c => by rcases c with c | c <;> cases c
  | _, _, .dT h k n u r, c => by rcases c with c | c <;> cases c
  | _, _, .ins h k r, c => by rcases c with c | c <;> cases c
theorem dps_of (s : Same G H) : ∀ {ps : List PV} {vs : List V}, Reps F G ps vs → PyData.canLayAll0 (pdts ps) = true → DpAll F.K H vs (pdts ps)
  | _, _, .nil, _ => .nil
  | _, _, .cons h r, c => by
    have c2 := Bool.and_eq_true_iff.mp (show (PyData.canLay0 (pdt _) && PyData.canLayAll0 (pdts _)) = true from c)
    exact .cons (dp_of s h (.inr c2.1)) (dps_of s r c2.2)
end
theorem pdts_eq : ∀ xs : List PV, pdts xs = xs.map pdt
  | [] => rfl
  | x :: xs => by rw [pdts, List.map_cons, pdts_eq xs]

/-! ### arithmetic -/
def LIM : Nat := 16000000
theorem lim_line {n : Nat} (h : n ≤ LIM) : n ≤ sizeLine := Nat.le_trans h (by decide)
def pAdd : PV → PV → Option PV
  | .int i, .int j => some (.int (i + j))
  | .str x, .str y => if x.length + y.length ≤ LIM then some (.str (x ++ y)) else none
  | .lst xs, .lst ys => if xs.length + ys.length ≤ LIM then some (.lst (xs ++ ys)) else none
  | .tup xs, .tup ys => if xs.length + ys.length ≤ LIM then some (.tup (xs ++ ys)) else none
  | _, _ => none
def rAdd (K : PySem.W.Frag) : R2 := fun x y H Q => (((rI0 fun i j => .int (i + j)) x y H Q ∨ (∃ i j, x = .str i ∧ y = .str j ∧ i.length + j.length ≤ sizeLine ∧ Q (.str (i ++ j)) H)) ∨ rCat x y H Q) ∨ rCatA K x y H Q
theorem op_addA {X : Cx} : OpR X (binaryOp .Add) (rAdd X.K) := OpR.or (OpR.or (OpR.or op_add op_add_str) op_cat) op_catA
theorem ite_some {α : Type} {c : Prop} [Decidable c] {a b : α} (h : (if c then some a else none) = some b) : c ∧ a = b := by
  by_cases k : c
  · rw [if_pos k] at h
    exact ⟨k, Option.some.inj h⟩
  · rw [if_neg k] at h
    cases h
theorem b_add (hK : F.K = K) : BinOk F (rAdd K) pAdd := by
  subst hK
  intro G H v u x y z Q s rx ry e k
  cases rx <;> cases ry <;> first | (exfalso; cases e; done) | skip
  case int.int i j =>
    cases e
    exact .inl (.inl (.inl ⟨_, _, rfl, rfl, k _ G H (Grow.refl s) (.int _)⟩))
  case str.str i j =>
    obtain ⟨l, rfl⟩ := ite_some e
    exact .inl (.inl (.inr ⟨_, _, rfl, rfl, lim_line l, k _ G H (Grow.refl s) (.str _)⟩))
  case lst.lst xs a vs hx rx ys b us hy ry =>
    obtain ⟨l, rfl⟩ := ite_some e
    refine .inl (.inr ⟨_, _, _, _, rfl, rfl, s _ _ hx, s _ _ hy, by rw [← rx.length, ← ry.length]; exact lim_line l, fun p n => ?_⟩)
    have e1 := same_upd (o := .lst (vs ++ us)) (s.free n)
    exact k _ _ _ (Grow.new1 s n) (.lst upd_same ((rx.same e1).append (ry.same e1)))
  case tup.tup xs a vs hx rx ys b us hy ry =>
    obtain ⟨l, rfl⟩ := ite_some e
    refine .inr ⟨_, _, _, _, rfl, rfl, SqT.same s hx, SqT.same s hy, by rw [← rx.length, ← ry.length]; exact lim_line l, fun e1 => ?_, fun _ e1 => ?_, fun _ _ p n => ?_⟩
    · subst e1
      cases rx
      exact k _ G H (Grow.refl s) (.tup hy ry)
    · subst e1
      cases ry
      rw [List.append_nil] at k
      exact k _ G H (Grow.refl s) (.tup hx rx)
    · have e1 := same_upd (o := .tup (vs ++ us)) (s.free n)
      exact k _ _ _ (Grow.new1 s n) (.tup (.inl (.inl upd_same)) ((rx.same e1).append (ry.same e1)))
def pSub : PV → PV → Option PV
  | .int i, .int j => some (.int (i - j))
  | _, _ => none
theorem b_sub : BinOk F (rI0 fun i j => .int (i - j)) pSub := by
  intro G H v u x y z Q s rx ry e k
  cases rx <;> cases ry <;> first | (exfalso; cases e; done) | skip
  cases e
  exact ⟨_, _, rfl, rfl, k _ G H (Grow.refl s) (.int _)⟩
def pMul : PV → PV → Option PV
  | .int i, .int j => if i.natAbs.log2 + j.natAbs.log2 < 1000000 ∨ j.natAbs < 2 ^ 63 ∨ i.natAbs < 2 ^ 63 then some (.int (i * j)) else none
  | _, _ => none
theorem op_mulA {X : Cx} : OpR X (binaryOp .Mult) (fun x y H Q => (rI CMul fun i j => .int (i * j)) x y H Q ∨ (rI CMulW fun i j => .int (i * j)) x y H Q) := OpR.or op_mul op_mulW
theorem b_mul : BinOk F (fun x y H Q => (rI CMul fun i j => .int (i * j)) x y H Q ∨ (rI CMulW fun i j => .int (i * j)) x y H Q) pMul := by
  intro G H v u x y z Q s rx ry e k
  cases rx <;> cases ry <;> first | (exfalso; cases e; done) | skip
  obtain ⟨l, rfl⟩ := ite_some e
  rcases l with l | l | l
  · exact .inr ⟨_, _, rfl, rfl, l, k _ G H (Grow.refl s) (.int _)⟩
  · exact .inl ⟨_, _, rfl, rfl, .inr (by omega), k _ G H (Grow.refl s) (.int _)⟩
  · exact .inl ⟨_, _, rfl, rfl, .inl (by omega), k _ G H (Grow.refl s) (.int _)⟩
def pDiv : PV → PV → Option PV
  | .int i, .int j => if 0 < j ∧ j.natAbs.log2 < 9000 then some (.int (i / j)) else none
  | _, _ => none
theorem b_div : BinOk F (rI CDivW fun i j => .int (i / j)) pDiv := by
  intro G H v u x y z Q s rx ry e k
  cases rx <;> cases ry <;> first | (exfalso; cases e; done) | skip
  obtain ⟨l, rfl⟩ := ite_some e
  exact ⟨_, _, rfl, rfl, l, k _ G H (Grow.refl s) (.int _)⟩
def pMod : PV → PV → Option PV
  | .int i, .int j => if 0 < j then some (.int (i % j)) else none
  | _, _ => none
theorem b_mod : BinOk F (rI (fun _ j => 0 < j) fun i j => .int (i % j)) pMod := by
  intro G H v u x y z Q s rx ry e k
  cases rx <;> cases ry <;> first | (exfalso; cases e; done) | skip
  obtain ⟨l, rfl⟩ := ite_some e
  exact ⟨_, _, rfl, rfl, l, k _ G H (Grow.refl s) (.int _)⟩
def pNeg : PV → Option PV
  | .int i => some (.int (-i))
  | _ => none
theorem u_neg : UnOk F (rU fun i => .int (-i)) pNeg := by
  intro G H v x z Q s rx e k
  cases rx <;> first | (exfalso; cases e; done) | skip
  cases e
  exact ⟨_, rfl, k _ G H (Grow.refl s) (.int _)⟩

/-! ### comparisons -/
def pLt : PV → PV → Option PV
  | .int i, .int j => some (.bl (decide (i < j)))
  | _, _ => none
def pLe : PV → PV → Option PV
  | .int i, .int j => some (.bl (decide (i ≤ j)))
  | _, _ => none
def pGt : PV → PV → Option PV
  | .int i, .int j => some (.bl (decide (j < i)))
  | _, _ => none
def pGe : PV → PV → Option PV
  | .int i, .int j => some (.bl (decide (j ≤ i)))
  | _, _ => none
theorem c_int {g : Int → Int → Bool} {f : PV → PV → Option PV} (hf : ∀ x y z, f x y = some z → ∃ i j, x = .int i ∧ y = .int j ∧ z = .bl (g i j)) : CmpOk F (rI0 fun i j => .bl (g i j)) f := by
  intro G H v u x y z Q s rx ry e
  obtain ⟨i, j, rfl, rfl, rfl⟩ := hf x y z e
  cases rx
  cases ry
  exact ⟨_, rfl, fun q => ⟨_, _, rfl, rfl, q⟩⟩
theorem c_lt : CmpOk F (rI0 fun i j => .bl (decide (i < j))) pLt := c_int fun x y z e => by cases x <;> cases y <;> cases e; exact ⟨_, _, rfl, rfl, rfl⟩
theorem c_le : CmpOk F (rI0 fun i j => .bl (decide (i ≤ j))) pLe := c_int fun x y z e => by cases x <;> cases y <;> cases e; exact ⟨_, _, rfl, rfl, rfl⟩
theorem c_gt : CmpOk F (rI0 fun i j => .bl (decide (j < i))) pGt := c_int fun x y z e => by cases x <;> cases y <;> cases e; exact ⟨_, _, rfl, rfl, rfl⟩
theorem c_ge : CmpOk F (rI0 fun i j => .bl (decide (j ≤ i))) pGe := c_int fun x y z e => by cases x <;> cases y <;> cases e; exact ⟨_, _, rfl, rfl, rfl⟩
/-- == of data -/
def pEq (x y : PV) : Option PV := if SeqAt.shaped (pdt x) = true ∧ SeqAt.shaped (pdt y) = true then some (.bl (PyData.eqv (pdt x) (pdt y))) else none
def pNe (x y : PV) : Option PV := if SeqAt.shaped (pdt x) = true ∧ SeqAt.shaped (pdt y) = true then some (.bl (!PyData.eqv (pdt x) (pdt y))) else none
theorem c_eq (hK : F.K = K) : CmpOk F (rEqD K) pEq := by
  subst hK
  intro G H v u x y z Q s rx ry e
  obtain ⟨⟨l1, l2⟩, rfl⟩ := ite_some e
  exact ⟨_, rfl, fun q => ⟨_, _, dp_of s rx (.inl l1), dp_of s ry (.inl l2), l1, l2, q⟩⟩
theorem c_ne (hK : F.K = K) : CmpOk F (rNeD K) pNe := by
  subst hK
  intro G H v u x y z Q s rx ry e
  obtain ⟨⟨l1, l2⟩, rfl⟩ := ite_some e
  exact ⟨_, rfl, fun q => ⟨_, _, dp_of s rx (.inl l1), dp_of s ry (.inl l2), l1, l2, q⟩⟩
/-- is None, is not None -/
def isN : PV → Bool
  | .non => true
  | _ => false
def pIsN (x y : PV) : Option PV := if isN y = true then some (.bl (isN x)) else none
def pNotN (x y : PV) : Option PV := if isN y = true then some (.bl (!isN x)) else none
theorem isN_of {p : PV} {v : V} (r : Rep F G p v) : isN p = decide (v = .non) := by cases r <;> rfl
theorem isN_non {p : PV} {v : V} (r : Rep F G p v) (h : isN p = true) : v = .non := by cases r <;> first | rfl | cases h
theorem c_isN : CmpOk F (fun x y H Q => y = .non ∧ Q (.bl (decide (x = .non))) H) pIsN := by
  intro G H v u x y z Q s rx ry e
  obtain ⟨l, rfl⟩ := ite_some e
  exact ⟨_, rfl, fun q => ⟨isN_non ry l, by rw [← isN_of rx]; exact q⟩⟩
theorem c_notN : CmpOk F (fun x y H Q => y = .non ∧ Q (.bl (!decide (x = .non))) H) pNotN := by
  intro G H v u x y z Q s rx ry e
  obtain ⟨l, rfl⟩ := ite_some e
  exact ⟨_, rfl, fun q => ⟨isN_non ry l, by rw [← isN_of rx]; exact q⟩⟩
/-- x in a written list or tuple of flat things; x in a list of data; a text in a text -/
def flatP : PV → Bool
  | .non => true
  | .bl _ => true
  | .int _ => true
  | .str _ => true
  | _ => false
def vFl : PV → V
  | .bl b => .bl b
  | .int i => .int i
  | .str x => .str x
  | _ => .non
def inStr (x y : Str) : Bool := !(Builtin.Str.occurrences y x 0 y.length 1).isEmpty
def pInB (x y : PV) : Option Bool := match y with
  | .lst ys => if SeqAt.shaped (pdt x) = true ∧ SeqAt.shaped (pdt (.lst ys)) = true then some ((pdts ys).any fun z => PyData.eqv z (pdt x)) else none
  | .tup ys => if flatP x = true ∧ ys.all flatP = true then some (inV (vFl x) (ys.map vFl)) else none
  | .str b => match x with
    | .str a => some (inStr a b)
    | _ => none
  | _ => none
def pIn (x y : PV) : Option PV := (pInB x y).map .bl
def pNotIn (x y : PV) : Option PV := (pInB x y).map fun k => .bl (!k)
theorem fl_of {p : PV} {v : V} (r : Rep F G p v) (h : flatP p = true) : v = vFl p ∧ flatV v = true := by cases r <;> first | exact ⟨rfl, rfl⟩ | cases h
theorem fls_of : ∀ {ps : List PV} {vs : List V}, Reps F G ps vs → ps.all flatP = true → vs = ps.map vFl ∧ vs.all flatV = true
  | _, _, .nil, _ => ⟨rfl, rfl⟩
  | _, _, .cons h r, c => by
    obtain ⟨c1, c2⟩ := Bool.and_eq_true_iff.mp (show (flatP _ && List.all _ flatP) = true from c)
    obtain ⟨e1, f1⟩ := fl_of h c1
    obtain ⟨e2, f2⟩ := fls_of r c2
    refine ⟨by rw [List.map_cons, ← e1, ← e2], by rw [List.all_cons, f1, f2] <;> rfl⟩
def rInA (K : PySem.W.Frag) : R2 := fun x y H Q => (rInD K x y H Q ∨ rIn K false x y H Q) ∨ (∃ i j, x = .str i ∧ y = .str j ∧ Q (.bl (!(Builtin.Str.occurrences j i 0 j.length 1).isEmpty)) H)
def rNotInA (K : PySem.W.Frag) : R2 := fun x y H Q => (rNotInD K x y H Q ∨ rIn K true x y H Q) ∨ (∃ i j, x = .str i ∧ y = .str j ∧ Q (.bl (!(!(Builtin.Str.occurrences j i 0 j.length 1).isEmpty))) H)
theorem op_inA {X : Cx} (hu : X.A.units + 65 < cLine) : OpR X (compareOp .In) (rInA X.K) := OpR.or (OpR.or (op_inD hu) op_in_seq) op_in_str
theorem op_notInA {X : Cx} (hu : X.A.units + 65 < cLine) : OpR X (compareOp .NotIn) (rNotInA X.K) := OpR.or (OpR.or (op_notInD hu) op_notIn_seq) op_notin_str
theorem c_in (hK : F.K = K) : CmpOk F (rInA K) pIn := by
  subst hK
  intro G H v u x y z Q s rx ry e
  unfold pIn at e
  cases eb : pInB x y with
  | none => rw [eb] at e; cases e
  | some k =>
    rw [eb] at e
    cases e
    refine ⟨k, rfl, fun q => ?_⟩
    cases ry <;> first | (exfalso; cases eb; done) | skip
    case str b =>
      cases rx <;> first | (exfalso; cases eb; done) | skip
      cases eb
      exact .inr ⟨_, _, rfl, rfl, q⟩
    case tup ys a us hy ry =>
      obtain ⟨⟨l1, l2⟩, rfl⟩ := ite_some eb
      obtain ⟨e1, f1⟩ := fl_of rx l1
      obtain ⟨e2, f2⟩ := fls_of ry l2
      exact .inl (.inr ⟨_, _, rfl, .inr (SqT.same s hy), f1, f2, by rw [e1, e2]; exact q⟩)
    case lst ys a us hy ry =>
      obtain ⟨⟨l1, l2⟩, rfl⟩ := ite_some eb
      exact .inl (.inl ⟨_, _, dp_of s rx (.inl l1), dp_of s (.lst hy ry) (.inl l2), l1, l2, q⟩)
theorem c_notIn (hK : F.K = K) : CmpOk F (rNotInA K) pNotIn := by
  subst hK
  intro G H v u x y z Q s rx ry e
  unfold pNotIn at e
  cases eb : pInB x y with
  | none => rw [eb] at e; cases e
  | some k =>
    rw [eb] at e
    cases e
    refine ⟨!k, rfl, fun q => ?_⟩
    cases ry <;> first | (exfalso; cases eb; done) | skip
    case str b =>
      cases rx <;> first | (exfalso; cases eb; done) | skip
      cases eb
      exact .inr ⟨_, _, rfl, rfl, q⟩
    case tup ys a us hy ry =>
      obtain ⟨⟨l1, l2⟩, rfl⟩ := ite_some eb
      obtain ⟨e1, f1⟩ := fl_of rx l1
      obtain ⟨e2, f2⟩ := fls_of ry l2
      exact .inl (.inr ⟨_, _, rfl, .inr (SqT.same s hy), f1, f2, by rw [e1, e2]; exact q⟩)
    case lst ys a us hy ry =>
      obtain ⟨⟨l1, l2⟩, rfl⟩ := ite_some eb
      exact .inl (.inl ⟨_, _, dp_of s rx (.inl l1), dp_of s (.lst hy ry) (.inl l2), l1, l2, q⟩)

/-! ### subscripts -/
def pIx : PV → PV → Option PV
  | .lst xs, .int i => atI xs i
  | .tup xs, .int i => atI xs i
  | .str x, .int i => if x.length ≤ LIM then (atI x.cps.toList i).map fun c => .str ⟨#[c]⟩ else none
  | _, _ => none
def rIx (K : PySem.W.Frag) : R2 := fun x y H Q => (rIxL K x y H Q ∨ rIxT K x y H Q) ∨ rIxS x y H Q
theorem ix_any {X : Cx} : IxR X (rIx X.K) := by
  intro value slice pins s σ H x y v u Q I rx ry h hs
  rcases h with (h | h) | h
  · exact ix_list value slice pins s σ H x y v u Q I rx ry h hs
  · exact ix_tup value slice pins s σ H x y v u Q I rx ry h hs
  · exact ix_str value slice pins s σ H x y v u Q I rx ry h hs
theorem atI_rep {ps : List PV} {vs : List V} {i : Int} {p : PV} (r : Reps F G ps vs) (h : atI ps i = some p) : ∃ v, atI vs i = some v ∧ Rep F G p v := by
  unfold atI at h ⊢
  rw [← r.length]
  cases e : ixN ps.length i with
  | none => rw [e] at h; cases h
  | some j =>
    rw [e] at h
    obtain ⟨v, h1, h2⟩ := r.get (i := j) (p := p) h
    exact ⟨v, h1, h2⟩
theorem b_ix (hK : F.K = K) : BinOk F (rIx K) pIx := by
  subst hK
  intro G H v u x y z Q s rx ry e k
  cases rx <;> cases ry <;> first | (exfalso; cases e; done) | skip
  case str.int a i =>
    have e : (if a.length ≤ LIM then (atI a.cps.toList i).map (fun c => PV.str ⟨#[c]⟩) else none) = some z := e
    by_cases l : a.length ≤ LIM
    · rw [if_pos l] at e
      cases ea : atI a.cps.toList i with
      | none => rw [ea] at e; cases e
      | some c =>
        rw [ea] at e
        cases e
        exact .inr ⟨_, _, _, rfl, rfl, lim_line l, ea, k _ G H (Grow.refl s) (.str _)⟩
    · rw [if_neg l] at e
      cases e
  case tup.int ps a vs h r i =>
    obtain ⟨v, h1, h2⟩ := atI_rep r e
    exact .inl (.inr ⟨_, _, _, _, rfl, rfl, SqT.same s h, h1, k _ G H (Grow.refl s) h2⟩)
  case lst.int ps a vs h r i =>
    obtain ⟨v, h1, h2⟩ := atI_rep r e
    exact .inl (.inl ⟨_, _, _, _, rfl, rfl, .of (s _ _ h), h1, k _ G H (Grow.refl s) h2⟩)
end
section
variable {X : Cx} {F : Fx} {io : Option Addr} {W : WX} {a b : Expr} {pos : Pos}
theorem pp_ix {da db : DE} (hK : F.K = X.K) (h1 : PE X a (tE F io W da)) (h2 : PE X b (tE F io W db)) (hs : PlainIx b := by intro _ _; rfl) : PE X (.Subscript a b pos) (tE F io W (dBin pIx da db)) :=
  (pe_ix ix_any h1 h2 hs).imp fun _ _ _ h => bin_step (b_ix hK) h
/-! ### slices -/
def dPart (d : Option DE) : DD (Option Int) := match d with
  | none => fun ρ => .ok none ρ
  | some d => fun ρ => (d ρ).bind fun x ρ => match x with
    | .int i => .ok (some i) ρ
    | _ => .stuck
def cutL {α : Type} (xs : List α) (lo hi : Option Int) : List α := (xs.drop (HT.sIx xs.length 0 lo)).take (HT.sIx xs.length xs.length hi - HT.sIx xs.length 0 lo)
def pSl (x : PV) (lo hi : Option Int) : Option PV := match x with
  | .lst xs => some (.lst (cutL xs lo hi))
  | .tup xs => some (.tup (cutL xs lo hi))
  | .str x => if x.length ≤ LIM then some (.str (cutS x lo hi)) else none
  | _ => none
def dSl (da : DE) (dl dh : Option DE) : DE := fun ρ => (da ρ).bind fun x ρ => (dPart dl ρ).bind fun lo ρ => (dPart dh ρ).bind fun hi ρ => ofO (pSl x lo hi) ρ
abbrev RO : Hp → Option Int → Option Int → Prop := fun _ a b => a = b
theorem qo_none : PO X none (tD RO F io W (dPart none)) := ⟨fun pins s σ H Q I ⟨G, Fr, ρ, S, q⟩ => po_none.run pins s σ H Q I (q.done S rfl)⟩
theorem qo_some {d : DE} (h : PE X a (tE F io W d)) : PO X (some a) (tD RO F io W (dPart (some d))) := by
  refine ⟨fun pins s σ H Q I ⟨G, Fr, ρ, S, q⟩ => (po_some h).run pins s σ H Q I ?_⟩
  refine tD.step S q fun v H1 G1 ρ1 x e1 S1 r1 q1 => ?_
  cases r1 <;> first | exact q1.elim | skip
  exact ⟨_, rfl, q1.done S1 rfl⟩
def rSlX (K : PySem.W.Frag) : V → Option Int → Option Int → Hp → VK → Prop := fun x lo hi H Q => (rSlL K x lo hi H Q ∨ rSlA K x lo hi H Q) ∨ rSlS x lo hi H Q
theorem sl_any : SlR X (rSlX X.K) := by
  intro pins s σ H x v vl vu lo hi sl Q I rx hs pl pu h
  rcases h with (h | h) | h
  · exact sl_list pins s σ H x v vl vu lo hi sl Q I rx hs pl pu h
  · exact sl_tupA pins s σ H x v vl vu lo hi sl Q I rx hs pl pu h
  · exact sl_str pins s σ H x v vl vu lo hi sl Q I rx hs pl pu h
theorem cut_rep {G : Hp} {ps : List PV} {vs : List V} (lo hi : Option Int) (r : Reps F G ps vs) : Reps F G (cutL ps lo hi) (cutV vs lo hi) := by
  unfold cutL cutV
  rw [← r.length]
  exact (r.drop _).take _
theorem cut_whole {α : Type} {xs : List α} {lo hi : Option Int} (h : HT.sIx xs.length 0 lo = 0 ∧ HT.sIx xs.length xs.length hi = xs.length) : cutL xs lo hi = xs := by
  unfold cutL
  rw [h.1, h.2, List.drop_zero, Nat.sub_zero, List.take_length]
theorem pp_sl {da : DE} {lo hi : Option Expr} {dl dh : Option DE} {p2 : Pos} (hK : F.K = X.K) (h1 : PE X a (tE F io W da)) (h2 : PO X lo (tD RO F io W (dPart dl))) (h3 : PO X hi (tD RO F io W (dPart dh))) : PE X (.Subscript a (.Slice lo hi none p2) pos) (tE F io W (dSl da dl dh)) := by
  refine (pe_slice sl_any h1 h2 h3).imp fun σ H Q ⟨G, Fr, ρ, S, q⟩ => ?_
  refine tD.step S q fun v H1 G1 ρ1 x e1 S1 r1 q1 => tD.step S1 q1 fun l H2 G2 ρ2 l' e2 S2 r2 q2 => tD.step S2 q2 fun h H3 G3 ρ3 h' e3 S3 r3 q3 => ?_
  have r2 : l' = l := r2
  have r3 : h' = h := r3
  subst r2
  subst r3
  obtain ⟨z, hz, k⟩ := Post.ofO (γ := Unit) q3 S3
  have r1 := r1.same (e2.trans e3)
  cases r1 <;> first | (exfalso; cases hz; done) | skip
  case str x =>
    obtain ⟨l, rfl⟩ := ite_some hz
    exact .inr ⟨_, rfl, lim_line l, k _ G3 H3 (Grow.refl S3.sub) (.str _)⟩
  case tup ps p vs hx r =>
    cases hz
    refine .inl (.inr ⟨_, _, rfl, by rw [← hK]; exact SqT.same S3.sub hx, fun w => ?_, fun w p n => ?_⟩)
    · rw [← r.length] at w
      have := k _ G3 H3 (Grow.refl S3.sub) (by rw [cut_whole w]; exact .tup hx r)
      exact this
    · exact k _ _ _ (Grow.new1 S3.sub n) (.tup (.inl (.inl upd_same)) ((cut_rep _ _ r).same (same_upd (S3.sub.free n))))
  case lst ps p vs hx r =>
    cases hz
    refine .inl (.inl ⟨_, _, rfl, .of (S3.sub _ _ hx), fun p n => ?_⟩)
    exact k _ _ _ (Grow.new1 S3.sub n) (.lst upd_same ((cut_rep _ _ r).same (same_upd (S3.sub.free n))))
end
end Pl

set_option maxHeartbeats 4000000
/-! P3: statements, blocks, loops, a def's body. -/
namespace Pl
open PySem PySem.Spec PyProof.Rows L2

/-- how a statement ends -/
inductive Out where
  | nx (ρ : Rho)
  | rt (p : PV) (ρ : Rho)
  | exc (c : Nat) (as : List PV) (ρ : Rho)
  | stuck
abbrev DS := Rho → Out
def Res.toOut {α : Type} (r : Res α) (k : α → Rho → Out) : Out := match r with
  | .ok a ρ => k a ρ
  | .exc c as ρ => .exc c as ρ
  | .stuck => .stuck
def Out.thn (o : Out) (k : DS) : Out := match o with
  | .nx ρ => k ρ
  | .rt p ρ => .rt p ρ
  | .exc c as ρ => .exc c as ρ
  | .stuck => .stuck
section
variable {F : Fx} {io : Option Addr} {W : WX} {Fr G G' H : Hp} {σ : L2.St} {ρ : Rho} {D : Ends}
def PostS (F : Fx) (io : Option Addr) (W : WX) (Fr G : Hp) (D : Ends) : Out → Prop
  | .nx ρ => ∀ σ' G' H', Same G G' → StOk F io G' Fr H' σ' ρ → D.nx σ' H'
  | .rt p ρ => ∀ v σ' G' H', Same G G' → StOk F io G' Fr H' σ' ρ → Rep F G' p v → D.rt v H'
  | .exc c as ρ => ∀ d σ' G' H', Same G G' → StOk F io G' Fr H' σ' ρ → ExcAt F G' H' c as d → W (.ref (F.cls c)) d σ' H'
  | .stuck => False
def tS (F : Fx) (io : Option Addr) (W : WX) (d : DS) : TS := fun D σ H => ∃ G Fr ρ, StOk F io G Fr H σ ρ ∧ PostS F io W Fr G D (d ρ)
theorem PostS.gle (e : Same G G') : ∀ {o : Out}, PostS F io W Fr G D o → PostS F io W Fr G' D o
  | .nx ρ, h => fun σ1 G1 H1 e1 => h σ1 G1 H1 (e.trans e1)
  | .rt p ρ, h => fun v σ1 G1 H1 e1 => h v σ1 G1 H1 (e.trans e1)
  | .exc c as ρ, h => fun d σ1 G1 H1 e1 => h d σ1 G1 H1 (e.trans e1)
  | .stuck, h => h
theorem tD.stepS {α β : Type} {R : Hp → α → β → Prop} {d : DD α} {k : α → Rho → Out} {Q1 : β → Hp → Prop} (S : StOk F io G Fr H σ ρ) (h : PostS F io W Fr G D ((d ρ).toOut k))
    (f : ∀ v H1 G1 ρ1 x, Same G G1 → StOk F io G1 Fr H1 σ ρ1 → R G1 x v → PostS F io W Fr G1 D (k x ρ1) → Q1 v H1) : tD R F io W d σ H Q1 := by
  refine ⟨G, Fr, ρ, S, ?_⟩
  cases e : d ρ with
  | ok x ρ1 =>
    intro v G1 H1 e1 S1 r1
    rw [e] at h
    exact f v H1 G1 ρ1 x e1 S1 r1 (PostS.gle e1 h)
  | exc c as ρ1 =>
    rw [e] at h
    exact fun d G' H' e1 S1 x => h d σ G' H' e1 S1 x
  | stuck =>
    rw [e] at h
    exact h
theorem PostS.next (h : PostS F io W Fr G D (.nx ρ)) (S : StOk F io G Fr H σ ρ) : D.nx σ H := h σ G H (Same.refl _) S
theorem PostS.imp {D' : Ends} (n : ∀ σ H, D.nx σ H → D'.nx σ H) (r : ∀ v H, D.rt v H → D'.rt v H) : ∀ {o : Out}, PostS F io W Fr G D o → PostS F io W Fr G D' o
  | .nx ρ, h => fun σ1 G1 H1 e1 S1 => n _ _ (h σ1 G1 H1 e1 S1)
  | .rt p ρ, h => fun v σ1 G1 H1 e1 S1 r1 => r _ _ (h v σ1 G1 H1 e1 S1 r1)
  | .exc c as ρ, h => h
  | .stuck, h => h
/-- what comes behind -/
theorem PostS.seq {d : DS} : ∀ {o : Out}, PostS F io W Fr G D (o.thn d) → PostS F io W Fr G { D with nx := fun σ H => tS F io W d D σ H } o
  | .nx ρ, h => fun σ1 G1 H1 e1 S1 => ⟨G1, Fr, ρ, S1, PostS.gle e1 h⟩
  | .rt p ρ, h => h
  | .exc c as ρ, h => h
  | .stuck, h => h
end
theorem _root_.L2.PS.imp {X : Cx} {st : Stmt} {t t' : TS} (h : PS X st t) (i : ∀ D σ H, t' D σ H → t D σ H) : PS X st t' := ⟨fun pins s σ H D I w => h.run pins s σ H D I (i D σ H w)⟩
theorem _root_.L2.PSs.imp {X : Cx} {st : List Stmt} {t t' : TS} (h : PSs X st t) (i : ∀ D σ H, t' D σ H → t D σ H) : PSs X st t' := ⟨fun pins s σ H D I w => h.run pins s σ H D I (i D σ H w)⟩

section
variable {X : Cx} {F : Fx} {io : Option Addr} {W : WX} {st : Stmt} {rest body : List Stmt} {a b c e : Expr} {pos : Pos}
def sNil : DS := fun ρ => .nx ρ
def sSeq (d u : DS) : DS := fun ρ => (d ρ).thn u
theorem ss_nil : PSs X [] (tS F io W sNil) := pss_nil.imp fun D σ H ⟨G, Fr, ρ, S, q⟩ => PostS.next q S
theorem ss_cons {d u : DS} (h : PS X st (tS F io W d)) (h2 : PSs X rest (tS F io W u)) : PSs X (st :: rest) (tS F io W (sSeq d u)) :=
  (pss_cons h h2).imp fun D σ H ⟨G, Fr, ρ, S, q⟩ => ⟨G, Fr, ρ, S, PostS.seq q⟩
theorem ss_one {d : DS} (h : PS X st (tS F io W d)) : PSs X [st] (tS F io W d) := pss_one h
theorem st_pass : PS X (.Pass pos) (tS F io W sNil) := ps_pass.imp fun D σ H ⟨G, Fr, ρ, S, q⟩ => PostS.next q S
/-- an expression whose value is dropped -/
def sExpr (d : DE) : DS := fun ρ => (d ρ).toOut fun _ ρ => .nx ρ
theorem st_expr {d : DE} (h : PE X e (tE F io W d)) (hs : swapsWith e none pos.line X.env = pure false := by rfl) : PS X (.Expr e pos) (tS F io W (sExpr d)) :=
  (ps_expr h hs).imp fun D σ H ⟨G, Fr, ρ, S, q⟩ => tD.stepS S q fun v H1 G1 ρ1 x e1 S1 r1 q1 => PostS.next q1 S1
def sRet (d : DE) : DS := fun ρ => (d ρ).toOut fun x ρ => .rt x ρ
theorem st_ret {d : DE} (h : PE X e (tE F io W d)) : PS X (.Return (some e) pos) (tS F io W (sRet d)) :=
  (ps_ret h).imp fun D σ H ⟨G, Fr, ρ, S, q⟩ => tD.stepS S q fun v H1 G1 ρ1 x e1 S1 r1 q1 => q1 v σ G1 H1 (Same.refl _) S1 r1
def sRetN : DS := fun ρ => .rt .non ρ
theorem st_retN : PS X (.Return none pos) (tS F io W sRetN) := ps_retN.imp fun D σ H ⟨G, Fr, ρ, S, q⟩ => q .non σ G H (Same.refl _) S .non
def sIf (t : DD Bool) (d u : DS) : DS := fun ρ => (t ρ).toOut fun k ρ => if k = true then d ρ else u ρ
theorem st_if {t : DD Bool} {d u : DS} {l r : List Stmt} (hc : PT X c (tT F io W t)) (h : PSs X l (tS F io W d)) (h2 : PSs X r (tS F io W u)) : PS X (.If c l r pos) (tS F io W (sIf t d u)) := by
  refine (ps_if hc h h2).imp fun D σ H ⟨G, Fr, ρ, S, q⟩ => ?_
  refine tD.stepS S q fun v H1 G1 ρ1 x e1 S1 r1 q1 => ?_
  have r1 : x = v := r1
  subst r1
  cases x with
  | true =>
    rw [if_pos rfl] at q1 ⊢
    exact ⟨G1, Fr, ρ1, S1, q1⟩
  | false =>
    rw [if_neg Bool.false_ne_true] at q1 ⊢
    exact ⟨G1, Fr, ρ1, S1, q1⟩
/-- name = value -/
def sSet (i : Nat) (d : DE) : DS := fun ρ => (d ρ).toOut fun x ρ => .nx (ρ.set i (some (.val x)))
theorem asg_step {i : Nat} {d : DE} {D : Ends} {σ : L2.St} {H : Hp} (h : tS F io W (sSet i d) D σ H) : tAsg (tE F io W d) (gName i) D σ H := by
  obtain ⟨G, Fr, ρ, S, q⟩ := h
  exact tD.stepS S q fun v H1 G1 ρ1 x e1 S1 r1 q1 => PostS.next q1 (S1.set_val r1)
theorem st_set {i : Nat} {x : Str} {d : DE} {pos' : Pos} (hN : X.N.Nodup) (hi : X.N[i]? = some x) (hx : Loc X.env.scope x) (h : PE X e (tE F io W d)) (hs : swapsWith e (some (.Name x pos')) pos.line X.env = pure false := by rfl)
    (hf : X.fn x = true ∨ X.env.scope.names.lookup x = some .local := by first | exact .inl rfl | exact .inr rfl | assumption) : PS X (.Assign [.Name x pos'] e pos) (tS F io W (sSet i d)) :=
  (ps_set hN hi hx h hs hf).imp fun D σ H q => asg_step q
/-- targets: a name; several names -/
inductive Tg where
  | one (i : Nat)
  | tup (is : List Nat)
def setAll : List Nat → List PV → Rho → Option Rho
  | [], [], ρ => some ρ
  | i :: is, p :: ps, ρ => setAll is ps (ρ.set i (some (.val p)))
  | _, _, _ => none
def Tg.set : Tg → PV → Rho → Option Rho
  | .one i, p, ρ => some (ρ.set i (some (.val p)))
  | .tup is, .tup ps, ρ => setAll is ps ρ
  | .tup _, _, _ => none
def Tg.slots : Tg → List Nat
  | .one i => [i]
  | .tup is => is
theorem wipe_set {i : Nat} {v : Option V} : ∀ {vs : List Nat} {σ : L2.St}, i ∈ vs → wipe (σ.set i v) vs = wipe σ vs
  | [], _, h => by cases h
  | j :: vs, σ, h => by
    show (wipe (σ.set i v) vs).set j none = (wipe σ vs).set j none
    by_cases e : i ∈ vs
    · rw [wipe_set e]
    · rcases List.mem_cons.mp h with rfl | h
      · have c : ∀ (vs : List Nat) (σ : L2.St), i ∉ vs → wipe (σ.set i v) vs = (wipe σ vs).set i v := by
          intro vs
          induction vs with
          | nil => intro σ _; rfl
          | cons k vs ih =>
            intro σ h
            show (wipe (σ.set i v) vs).set k none = ((wipe σ vs).set k none).set i v
            rw [ih σ (fun z => h (List.mem_cons_of_mem _ z)), List.set_comm _ _ (fun z => h (by rw [z]; exact List.mem_cons_self))]
        rw [c vs σ e, List.set_set]
      · exact absurd h e
/-- a target's rule gives this -/
def TgOk (F : Fx) (io : Option Addr) (t : TG) (g : Tg) : Prop := ∀ (G Fr H : Hp) (σ : L2.St) (ρ ρ' : Rho) (p : PV) (v : V) (Q : L2.St → Hp → Prop), StOk F io G Fr H σ ρ → Rep F G p v → g.set p ρ = some ρ' →
  (∀ σ', StOk F io G Fr H σ' ρ' → (∀ vs, (∀ i ∈ g.slots, i ∈ vs) → wipe σ' vs = wipe σ vs) → Q σ' H) → t v σ H Q
theorem tg_one {i : Nat} : TgOk F io (gName i) (.one i) := fun G Fr H σ ρ ρ' p v Q S r e k => by
  cases e
  exact k _ (S.set_val r) fun vs h => wipe_set (h i (List.mem_singleton.mpr rfl))
def TgsOk (F : Fx) (io : Option Addr) (t : TGs) (is : List Nat) : Prop := ∀ (G Fr H : Hp) (σ : L2.St) (ρ ρ' : Rho) (ps : List PV) (vs : List V) (Q : L2.St → Hp → Prop), StOk F io G Fr H σ ρ → Reps F G ps vs → setAll is ps ρ = some ρ' →
  (∀ σ', StOk F io G Fr H σ' ρ' → (∀ vs, (∀ i ∈ is, i ∈ vs) → wipe σ' vs = wipe σ vs) → Q σ' H) → t vs σ H Q
theorem tgs_nil : TgsOk F io gNil [] := fun G Fr H σ ρ ρ' ps vs Q S r e k => by
  cases r with
  | nil => cases e; exact ⟨rfl, k _ S fun _ _ => rfl⟩
  | cons => cases e
theorem tgs_cons {i : Nat} {t : TGs} {is : List Nat} (h : TgsOk F io t is) : TgsOk F io (gCons (gName i) t) (i :: is) := fun G Fr H σ ρ ρ' ps vs Q S r e k => by
  cases r with
  | nil => cases e
  | cons r rr => exact ⟨_, _, rfl, h G Fr H _ _ _ _ _ Q (S.set_val r) rr e fun σ' S' w => k σ' S' fun vs hv => (w vs fun j hj => hv j (List.mem_cons_of_mem _ hj)).trans (wipe_set (hv i List.mem_cons_self))⟩
theorem setAll_len : ∀ {is : List Nat} {ps : List PV} {ρ ρ' : Rho}, setAll is ps ρ = some ρ' → ps.length = is.length
  | [], [], _, _, _ => rfl
  | i :: is, p :: ps, ρ, ρ', h => congrArg (· + 1) (setAll_len (is := is) (ps := ps) h)
  | [], _ :: _, _, _, h => by cases h
  | _ :: _, [], _, _, h => by cases h
theorem tg_tup {t : TGs} {is : List Nat} {n : Nat} (hK : F.K = X.K) (h : TgsOk F io t is) (hn : is.length = n) : TgOk F io (gTup X.K n t) (.tup is) := fun G Fr H σ ρ ρ' p v Q S r e k => by
  cases r <;> first | (exfalso; cases e; done) | skip
  case tup ps a vs hx r =>
    exact ⟨_, _, rfl, by rw [← hK]; exact SqT.same S.sub hx, by rw [← r.length, ← hn]; exact setAll_len e, h G Fr H σ ρ ρ' ps vs Q S r e k⟩
/-- target = value -/
def sAsg (g : Tg) (d : DE) : DS := fun ρ => (d ρ).toOut fun x ρ => match g.set x ρ with
  | some ρ' => .nx ρ'
  | none => .stuck
theorem st_asg {tg : Expr} {t : TG} {g : Tg} {d : DE} (h : PE X e (tE F io W d)) (hg : PG X tg t) (ht : TgOk F io t g) (hs : swapsWithSole [tg] e pos.line X.env = pure false := by rfl) (hw : swappedStores [tg] e X.env = pure none := by rfl)
    (h1 : (assignEach [tg] X.env).map (·.2) = [assign tg X.env] := by rfl) : PS X (.Assign [tg] e pos) (tS F io W (sAsg g d)) := by
  refine (ps_asg h hg hs hw h1).imp fun D σ H ⟨G, Fr, ρ, S, q⟩ => ?_
  refine tD.stepS S q fun v H1 G1 ρ1 x e1 S1 r1 q1 => ?_
  cases eg : g.set x ρ1 with
  | none => rw [eg] at q1; exact q1.elim
  | some ρ2 =>
    rw [eg] at q1
    exact ht G1 Fr H1 σ ρ1 ρ2 x v D.nx S1 r1 eg fun σ' S2 _ => PostS.next q1 S2
/-- a, b = x, y of local names -/
def sPar (i j : Nat) (d : DD (List PV)) : DS := fun ρ => (d ρ).toOut fun xs ρ => match xs with
  | [x, y] => .nx ((ρ.set i (some (.val x))).set j (some (.val y)))
  | _ => .stuck
theorem st_par {i j : Nat} {x y : Str} {d : DD (List PV)} {px py pt : Pos} {kt k2 pt2} (hc : X.calm = true) (hN : X.N.Nodup) (hi : X.N[i]? = some x) (hj : X.N[j]? = some y) (hij : i ≠ j)
    (hx : X.env.scope.names.lookup x = some .local) (hy : X.env.scope.names.lookup y = some .local) (ha : PA X [a, b] (tA F io W d))
    (hw : swappedStores [.Tuple [.Name x px, .Name y py] kt pt] (.Tuple [a, b] k2 pt2) X.env = pure (some [x, y]))
    (hs : swapsWithSole [.Tuple [.Name x px, .Name y py] kt pt] (.Tuple [a, b] k2 pt2) pos.line X.env = pure false := by rfl) :
    PS X (.Assign [.Tuple [.Name x px, .Name y py] kt pt] (.Tuple [a, b] k2 pt2) pos) (tS F io W (sPar i j d)) := by
  refine (ps_par hc hN hi hj hij hx hy ha hw hs).imp fun D σ H ⟨G, Fr, ρ, S, q⟩ => ?_
  refine tD.stepS S q fun vs H1 G1 ρ1 xs e1 S1 r1 q1 => ?_
  cases r1 with
  | nil => exact q1.elim
  | cons r rr =>
    cases rr with
    | nil => exact q1.elim
    | cons r2 rr =>
      cases rr with
      | cons => exact q1.elim
      | nil => exact ⟨_, _, rfl, PostS.next q1 ((S1.set_val r).set_val r2)⟩
/-- name op= e -/
def sAug (i : Nat) (f : PV → PV → Option PV) (d : DE) : DS := fun ρ => match ρ[i]? with
  | some (some (.val x)) => (d ρ).toOut fun y ρ => match f x y with
    | some z => .nx (ρ.set i (some (.val z)))
    | none => .stuck
  | _ => .stuck
def IpOk (F : Fx) (r : TIp) (f : PV → PV → Option PV) : Prop := ∀ (G H : Hp) (v u : V) (x y z : PV) (Q : VK), Same G H → Rep F G x v → Rep F G y u → f x y = some z →
  (∀ v' G' H', Grow G H G' H' → Rep F G' z v' → Q v' H') → r v u H Q
theorem ip_addI : IpOk F (ipI fun i j => i + j) (fun x y => match x, y with
    | .int i, .int j => some (.int (i + j))
    | _, _ => none) := by
  intro G H v u x y z Q s rx ry e k
  cases rx <;> cases ry <;> first | (exfalso; cases e; done) | skip
  cases e
  exact ⟨_, _, rfl, rfl, k _ G H (Grow.refl s) (.int _)⟩
theorem st_aug {i : Nat} {x : Str} {d : DE} {op : Operator} {ti : TIp} {f : PV → PV → Option PV} {pos' : Pos} (hN : X.N.Nodup) (hi : X.N[i]? = some x) (hx : Loc X.env.scope x) (h : PE X e (tE F io W d)) (ho : PIp X op ti) (hp : IpOk F ti f)
    (hf : X.fn x = true ∨ X.env.scope.names.lookup x = some .local := by first | exact .inl rfl | exact .inr rfl | assumption) : PS X (.AugAssign (.Name x pos') op e pos) (tS F io W (sAug i f d)) := by
  refine (ps_aug hN hi hx h ho hf).imp fun D σ H ⟨G, Fr, ρ, S, q⟩ => ?_
  unfold sAug at q
  cases ei : ρ[i]? with
  | none => rw [ei] at q; exact q.elim
  | some o =>
    cases o with
    | none => rw [ei] at q; exact q.elim
    | some sv =>
      cases sv with
      | own => rw [ei] at q; exact q.elim
      | inp => rw [ei] at q; exact q.elim
      | val x =>
        rw [ei] at q
        obtain ⟨v, h1, h2⟩ := S.val i x ei
        refine ⟨v, h1, ?_⟩
        refine tD.stepS S q fun u H1 G1 ρ1 y e1 S1 r1 q1 => ?_
        cases ez : f x y with
        | none => rw [ez] at q1; exact q1.elim
        | some z =>
          rw [ez] at q1
          refine hp G1 H1 v u x y z _ S1.sub (h2.same e1) r1 ez fun v' G2 H2 g r2 => ?_
          exact PostS.next (PostS.gle g.gle q1) ((S1.grow g).set_val r2)

/-! ### while -/
def whileL (t : DD Bool) (d : DS) : Nat → DS
  | 0, _ => .stuck
  | n + 1, ρ => (t ρ).toOut fun k ρ => if k = true then (d ρ).thn (whileL t d n) else .nx ρ
theorem st_while {t : DD Bool} {d : DS} (n : Nat) (hp : PassesOwn (model X.prog X.w) X.A X.env X.xe) (hc : PT X c (tT F io W t)) (hb : PSs X body (tS F io W d)) : PS X (.While c body [] pos) (tS F io W (whileL t d n)) := by
  refine (ps_while hp hc hb).imp fun D σ H ⟨G0, Fr, ρ0, S0, q0⟩ => ?_
  refine ⟨fun m σ H => ∃ G ρ, Same G0 G ∧ StOk F io G Fr H σ ρ ∧ PostS F io W Fr G D (whileL t d m ρ), ⟨n, G0, ρ0, Same.refl _, S0, q0⟩, ?_⟩
  rintro m σ H ⟨G, ρ, e0, S, q⟩
  cases m with
  | zero => exact q.elim
  | succ m =>
    refine tD.stepS S q fun v H1 G1 ρ1 x e1 S1 r1 q1 => ?_
    have r1 : x = v := r1
    subst r1
    cases x with
    | true =>
      rw [if_pos rfl] at q1 ⊢
      refine ⟨fun σ H => ∃ G ρ, Same G0 G ∧ StOk F io G Fr H σ ρ ∧ PostS F io W Fr G D (whileL t d m ρ), fun σ' H' h => ⟨m, Nat.lt_succ_self m, h⟩, ?_⟩
      refine ⟨G1, Fr, ρ1, S1, ?_⟩
      cases ed : d ρ1 with
      | nx ρ2 =>
        rw [ed] at q1
        exact fun σ2 G2 H2 e2 S2 => ⟨G2, ρ2, (e0.trans e1).trans e2, S2, PostS.gle e2 q1⟩
      | rt p ρ2 => rw [ed] at q1; exact q1
      | exc c as ρ2 => rw [ed] at q1; exact q1
      | stuck => rw [ed] at q1; exact q1
    | false =>
      rw [if_neg Bool.false_ne_true] at q1 ⊢
      exact PostS.next q1 S1

/-! ### for -/
def forL (g : Tg) (d : DS) : List PV → DS
  | [], ρ => .nx ρ
  | p :: ps, ρ => match g.set p ρ with
    | some ρ' => (d ρ').thn (forL g d ps)
    | none => .stuck
/-- what is walked yields these values, turn by turn; it stands while what stands still stands -/
structure Yields (F : Fx) (J : It) (G0 : Hp) (ps : List PV) : Prop where
  go : ∀ (i : Nat) (G H : Hp), i < ps.length → Same G0 G → Same G H → J.go i H
  yld : ∀ (i : Nat) (G H H' : Hp) (v : V) (p : PV), ps[i]? = some p → Same G0 G → Same G H → J.yld i H v H' → ∃ G', Grow G H G' H' ∧ Rep F G' p v
  stop : ∀ (G H : Hp), Same G0 G → Same G H → J.stop ps.length H
abbrev RY (F : Fx) : Hp → List PV → It → Prop := fun G ps J => Yields F J G ps
def tI (F : Fx) (io : Option Addr) (W : WX) (d : DD (List PV)) : TI := tD (RY F) F io W d
theorem _root_.L2.PI.imp {X : Cx} {tg iter : Expr} {t t' : TI} (h : PI X tg iter t) (i : ∀ σ H R, t' σ H R → t σ H R) : PI X tg iter t' := ⟨fun pins s σ H R I w => h.run pins s σ H R I (i σ H R w)⟩
def sFor (g : Tg) (di : DD (List PV)) (d : DS) : DS := fun ρ => (di ρ).toOut fun ps ρ => forL g d ps ρ
theorem st_for {iter tg : Expr} {t : TG} {g : Tg} {di : DD (List PV)} {d : DS} (hp : PassesOwn (model X.prog X.w) X.A X.env X.xe) (hc : X.calm = true) (hi : PI X tg iter (tI F io W di)) (hg : PG X tg t) (ht : TgOk F io t g) (hb : PSs X body (tS F io W d))
    (hs : ∀ x, foldedSetIterable iter X.env x = pure x := by intro _; rfl) : PS X (.For tg iter body [] pos) (tS F io W (sFor g di d)) := by
  refine (ps_for hp hc hi hg hb hs).imp fun D σ H ⟨G0, Fr, ρ0, S0, q0⟩ => ?_
  refine tD.stepS (k := fun ps ρ => forL g d ps ρ) S0 q0 fun J H1 G1 ρ1 ps e1 S1 Y q1 => ?_
  refine ⟨fun i m σ H => m = ps.length - i ∧ i ≤ ps.length ∧ ∃ G ρ, Same G1 G ∧ StOk F io G Fr H σ ρ ∧ PostS F io W Fr G D (forL g d (ps.drop i) ρ), ⟨ps.length, by simp, Nat.zero_le _, G1, ρ1, Same.refl _, S1, q1⟩, ?_⟩
  rintro i m σ2 H2 ⟨rfl, hi, G2, ρ2, e2, S2, q2⟩
  by_cases hlt : i < ps.length
  · refine .inr ⟨Y.go i G2 H2 hlt e2 S2.sub, fun σ H => i + 1 ≤ ps.length ∧ ∃ G ρ, Same G1 G ∧ StOk F io G Fr H σ ρ ∧ PostS F io W Fr G D (forL g d (ps.drop (i + 1)) ρ), fun σ' H' h => ⟨ps.length - (i + 1), by omega, rfl, h.1, h.2⟩, fun x H' y => ?_⟩
    obtain ⟨G3, g3, r3⟩ := Y.yld i G2 H2 H' x ps[i] (by simp [hlt]) e2 S2.sub y
    have e3 := g3.gle
    have S3 := S2.grow g3
    rw [List.drop_eq_getElem_cons hlt] at q2
    have q2 : PostS F io W Fr G2 D (match g.set ps[i] ρ2 with
      | some ρ' => (d ρ').thn (forL g d (ps.drop (i + 1)))
      | none => .stuck) := q2
    cases eg : g.set ps[i] ρ2 with
    | none => rw [eg] at q2; exact q2.elim
    | some ρ3 =>
      rw [eg] at q2
      refine ht G3 Fr H' σ2 ρ2 ρ3 ps[i] x _ S3 r3 eg fun σ' S4 _ => ?_
      refine ⟨G3, Fr, ρ3, S4, ?_⟩
      have q2 : PostS F io W Fr G2 D ((d ρ3).thn (forL g d (ps.drop (i + 1)))) := q2
      cases ed : d ρ3 with
      | nx ρ5 =>
        rw [ed] at q2
        exact fun σ5 G5 H5 e5 S5 => ⟨hlt, G5, ρ5, (e2.trans e3).trans e5, S5, PostS.gle (e3.trans e5) q2⟩
      | rt p ρ5 => rw [ed] at q2; exact fun v σ5 G5 H5 e5 => q2 v σ5 G5 H5 (e3.trans e5)
      | exc c as ρ5 => rw [ed] at q2; exact fun v σ5 G5 H5 e5 => q2 v σ5 G5 H5 (e3.trans e5)
      | stuck => rw [ed] at q2; exact q2
  · have e : i = ps.length := by omega
    subst e
    refine .inl ⟨Y.stop G2 H2 e2 S2.sub, ?_⟩
    rw [List.drop_length] at q2
    exact PostS.next q2 S2
/-- the items of a list or tuple -/
def signsP (x : Str) : List PV := x.cps.toList.map fun c => .str ⟨#[c]⟩
def dItems (d : DE) : DD (List PV) := fun ρ => (d ρ).bind fun x ρ => match x with
  | .lst xs => .ok xs ρ
  | .tup xs => .ok xs ρ
  | .str x => .ok (signsP x) ρ
  | _ => .stuck
def dItL (d : DE) : DD (List PV) := fun ρ => (d ρ).bind fun x ρ => match x with
  | .lst xs => .ok xs ρ
  | _ => .stuck
def dItT (d : DE) : DD (List PV) := fun ρ => (d ρ).bind fun x ρ => match x with
  | .tup xs => .ok xs ρ
  | _ => .stuck
theorem yields_list {G0 : Hp} {a : Addr} {ps : List PV} {vs : List V} (h : G0 a = some (.lst vs)) (r : Reps F G0 ps vs) : Yields F (Itl F.K a) G0 ps where
  go := fun i G H hi e s => ⟨vs, vs[i]'(by rw [← r.length]; exact hi), .of (s _ _ (e _ _ h)), by simp⟩
  yld := fun i G H H' v p hp e s y => by
    obtain ⟨rfl, y⟩ := y
    obtain ⟨v', h1, h2⟩ := r.get hp
    have := y vs (.of (s _ _ (e _ _ h)))
    rw [h1] at this
    cases this
    exact ⟨G, Grow.refl s, h2.same e⟩
  stop := fun G H e s => ⟨vs, .of (s _ _ (e _ _ h)), by rw [r.length]; exact Nat.le_refl _⟩
theorem yields_tup {G0 : Hp} {a : Addr} {ps : List PV} {vs : List V} (h : SqT F.K G0 a vs) (r : Reps F G0 ps vs) : Yields F (Itt F.K a) G0 ps where
  go := fun i G H hi e s => ⟨vs, vs[i]'(by rw [← r.length]; exact hi), SqT.same (e.trans s) h, by simp⟩
  yld := fun i G H H' v p hp e s y => by
    obtain ⟨rfl, y⟩ := y
    obtain ⟨v', h1, h2⟩ := r.get hp
    have := y vs (SqT.same (e.trans s) h)
    rw [h1] at this
    cases this
    exact ⟨G, Grow.refl s, h2.same e⟩
  stop := fun G H e s => ⟨vs, SqT.same (e.trans s) h, by rw [r.length]; exact Nat.le_refl _⟩
theorem qi_list {tg : Expr} {d : DE} (hK : F.K = X.K) (h : PE X a (tE F io W d)) : PI X tg a (tI F io W (dItL d)) := by
  refine (pi_list h).imp fun σ H R ⟨G, Fr, ρ, S, q⟩ => ?_
  refine tD.step S q fun v H1 G1 ρ1 x e1 S1 r1 q1 => ?_
  cases r1 <;> first | exact q1.elim | skip
  case lst ps a vs h r => exact ⟨a, rfl, ⟨vs, .of (S1.sub _ _ h)⟩, q1 _ G1 H1 (Same.refl _) S1 (by rw [← hK]; exact yields_list h r)⟩
theorem qi_tup {tg : Expr} {d : DE} (hK : F.K = X.K) (h : PE X a (tE F io W d)) : PI X tg a (tI F io W (dItT d)) := by
  refine (pi_tup h).imp fun σ H R ⟨G, Fr, ρ, S, q⟩ => ?_
  refine tD.step S q fun v H1 G1 ρ1 x e1 S1 r1 q1 => ?_
  cases r1 <;> first | exact q1.elim | skip
  case tup ps a vs h r => exact ⟨a, rfl, ⟨vs, by rw [← hK]; exact SqT.same S1.sub h⟩, q1 _ G1 H1 (Same.refl _) S1 (by rw [← hK]; exact yields_tup h r)⟩
/-- range -/
def rangeL (lo hi : Int) : List PV := (List.range (hi - lo).toNat).map fun i => PV.int (lo + (i : Nat))
def dRange1 (d : DD (List PV)) : DD (List PV) := fun ρ => (d ρ).bind fun xs ρ => match xs with
  | [.int j] => if -(2 ^ 62) ≤ j ∧ j < 2 ^ 62 then .ok (rangeL 0 j) ρ else .stuck
  | _ => .stuck
def dRange2 (d : DD (List PV)) : DD (List PV) := fun ρ => (d ρ).bind fun xs ρ => match xs with
  | [.int i, .int j] => if -(2 ^ 62) ≤ i ∧ i < 2 ^ 62 ∧ -(2 ^ 62) ≤ j ∧ j < 2 ^ 62 then .ok (rangeL i j) ρ else .stuck
  | _ => .stuck
theorem rangeL_length (lo hi : Int) : (rangeL lo hi).length = (hi - lo).toNat := by simp [rangeL]
theorem rangeL_get {lo hi : Int} {i : Nat} {p : PV} (h : (rangeL lo hi)[i]? = some p) : p = .int (lo + i) := by
  unfold rangeL at h
  rw [List.getElem?_map] at h
  by_cases l : i < (hi - lo).toNat
  · rw [List.getElem?_range l] at h
    cases h
    rfl
  · rw [List.getElem?_eq_none (by simp; omega)] at h
    cases h
theorem yields_range {G0 : Hp} {lo hi : Int} : Yields F (Itr lo (hi - lo).toNat) G0 (rangeL lo hi) where
  go := fun i G H hi e s => by rw [rangeL_length] at hi; exact hi
  yld := fun i G H H' v p hp e s y => by
    obtain ⟨rfl, rfl⟩ := y
    rw [rangeL_get hp]
    exact ⟨G, Grow.refl s, .int _⟩
  stop := fun G H e s => by rw [rangeL_length]; exact Nat.le_refl _
theorem qi_range1 {tg : Expr} {d : DD (List PV)} {p : Pos} (hg : Gl X "range") (hm : X.mg "range" = none) (ha : PA X [a] (tA F io W d)) (hs : starEach [a] X.env = [(false, eval a X.env)] := by rfl) : PI X tg (.Call (.Name "range" p) [a] [] pos) (tI F io W (dRange1 d)) := by
  refine (pi_range1 hg hm ha hs).imp fun σ H R ⟨G, Fr, ρ, S, q⟩ => ?_
  refine tD.step S q fun vs H1 G1 ρ1 xs e1 S1 r1 q1 => ?_
  cases r1 with
  | nil => exact q1.elim
  | cons r rr =>
    cases rr with
    | cons => cases r <;> exact q1.elim
    | nil =>
      cases r <;> first | exact q1.elim | skip
      case int j =>
        have q1 : Post (RY F) F io W Fr G1 σ R (if -(2 ^ 62) ≤ j ∧ j < 2 ^ 62 then Res.ok (rangeL 0 j) ρ1 else .stuck) := q1
        by_cases l : -(2 ^ 62) ≤ j ∧ j < 2 ^ 62
        · rw [if_pos l] at q1
          have Y := yields_range (F := F) (G0 := G1) (lo := 0) (hi := j)
          rw [Int.sub_zero] at Y
          exact ⟨j, rfl, l.1, l.2, q1 _ G1 H1 (Same.refl _) S1 Y⟩
        · rw [if_neg l] at q1
          exact q1.elim
theorem qi_range2 {tg : Expr} {d : DD (List PV)} {p : Pos} (hg : Gl X "range") (hm : X.mg "range" = none) (ha : PA X [a, b] (tA F io W d)) (hs : starEach [a, b] X.env = [(false, eval a X.env), (false, eval b X.env)] := by rfl) (hs2 : starEach [b] X.env = [(false, eval b X.env)] := by rfl) :
    PI X tg (.Call (.Name "range" p) [a, b] [] pos) (tI F io W (dRange2 d)) := by
  refine (pi_range2 hg hm ha hs hs2).imp fun σ H R ⟨G, Fr, ρ, S, q⟩ => ?_
  refine tD.step S q fun vs H1 G1 ρ1 xs e1 S1 r1 q1 => ?_
  cases r1 with
  | nil => exact q1.elim
  | cons r rr =>
    cases rr with
    | nil => cases r <;> exact q1.elim
    | cons r2 rr =>
      cases rr with
      | cons => cases r <;> cases r2 <;> exact q1.elim
      | nil =>
        cases r <;> cases r2 <;> first | exact q1.elim | skip
        case int.int i j =>
          have q1 : Post (RY F) F io W Fr G1 σ R (if -(2 ^ 62) ≤ i ∧ i < 2 ^ 62 ∧ -(2 ^ 62) ≤ j ∧ j < 2 ^ 62 then Res.ok (rangeL i j) ρ1 else .stuck) := q1
          by_cases l : -(2 ^ 62) ≤ i ∧ i < 2 ^ 62 ∧ -(2 ^ 62) ≤ j ∧ j < 2 ^ 62
          · rw [if_pos l] at q1
            exact ⟨i, j, rfl, l, q1 _ G1 H1 (Same.refl _) S1 yields_range⟩
          · rw [if_neg l] at q1
            exact q1.elim
end

/-! ### a def's body -/
def runB (n : Nat) (d : DS) (ps : List PV) : FR := match d (ps.map (fun p => some (.val p)) ++ List.replicate (n - ps.length) none) with
  | .nx _ => .ok .non
  | .rt p _ => .ok p
  | .exc c as _ => .exc c as
  | .stuck => .stuck
theorem start_ok {F : Fx} {G H : Hp} {N : List Str} {ps : List PV} {vs : List V} (s : Same G H) (r : Reps F G ps vs) :
    StOk F none G (fun a => if (G a).isSome = true then none else H a) H (start N vs) (ps.map (fun p => some (.val p)) ++ List.replicate (N.length - ps.length) none) := by
  have no : ∀ (i : Nat) (sv : SV), (ps.map (fun p => some (SV.val p)) ++ List.replicate (N.length - ps.length) none)[i]? = some (some sv) → ∃ p, sv = .val p ∧ ps[i]? = some p := fun i sv e => by
    by_cases l : i < ps.length
    · rw [List.getElem?_append_left (by simpa using l), List.getElem?_map] at e
      cases q : ps[i]? with
      | none => rw [q] at e; cases e
      | some p => rw [q] at e; cases e; exact ⟨p, rfl, rfl⟩
    · rw [List.getElem?_append_right (by simpa using l), List.getElem?_replicate] at e
      split at e <;> cases e
  refine ⟨s, fun a o e => ?_, fun a o e => by simp [e], ?_, fun i p e => ?_, fun i c e => ?_, fun i j c d a e => ?_, fun a e => (by cases e), fun i c e => ?_, fun i j c d e => ?_⟩
  · have e : (if (G a).isSome = true then none else H a) = some o := e
    split at e
    · cases e
    · exact e
  · unfold L2.start
    simp [r.length]
  · obtain ⟨p', e1, e2⟩ := no i _ e
    cases e1
    obtain ⟨v, h1, h2⟩ := r.get e2
    refine ⟨v, ?_, h2⟩
    unfold L2.start
    rw [List.getElem?_append_left (by simpa using lt_of_slot (l := vs.map some) (i := i) (y := v) (by rw [List.getElem?_map, h1]; rfl)), List.getElem?_map, h1]
    rfl
  · obtain ⟨p', e1, e2⟩ := no i _ e; cases e1
  · obtain ⟨p', e1, e2⟩ := no i _ e; cases e1
  · obtain ⟨p', e1, e2⟩ := no i _ e; cases e1
  · obtain ⟨p', e1, e2⟩ := no i _ e; cases e1
theorem end_grow {F : Fx} {io : Option Addr} {G H G' H' : Hp} {σ : L2.St} {ρ : Rho} (s : Same G H) (e : Same G G') (S : StOk F io G' (fun a => if (G a).isSome = true then none else H a) H' σ ρ) : Grow G H G' H' := by
  have dis : ∀ a o, G' a = some o → (if (G a).isSome = true then none else H a) = none := S.dis
  have fsub : ∀ a o, (if (G a).isSome = true then none else H a) = some o → H' a = some o := S.fsub
  refine ⟨fun a o h => ?_, e, S.sub, fun a o h h0 => ?_⟩
  · cases q : G a with
    | none => exact fsub a o (by simp [q, h])
    | some u =>
      have h1 := s a u q
      rw [h] at h1
      cases h1
      exact S.sub a _ (e a _ q)
  · have h1 := dis a o h
    rw [if_neg (by simp [h0])] at h1
    exact h1
/-- THE RULE of a def that changes nothing: what its body means -/
theorem fn_pure {P : Program} {w : World} {K : PySem.W.Frag} {mg : Str → Option Value} {base : Heap} {x qual : Str} {params : Arguments} {body : List Stmt} {scope : Scope} {f : Addr} {fd : FuncData} {N ps : List Str} {k : Nat} {F : Fx} {d : DS}
    (FD : FunD K x qual params body scope [] [] f fd) (S : FnScope N ps scope)
    (h : ∀ (cdv : Value) (A : Around) (outer : List Env) (s : Shared) (H : Hp) (E : XK), Room k (A.deeper (envOfC qual scope s.heap.objs.size f cdv)) →
      PSs (cxOf (L2.CX P w) P w K mg base N qual scope f cdv A outer s H E) body (tS F none (fun cls d _ H => E cls d H) d)) :
    FnOk P w K mg base (L2.CX P w) (k + 1) f fd ps (spP F ps.length (runB N.length d)) := by
  refine FD.ok S (fun vs H Q E q => q.1) fun cdv A outer s H vs Q E hr q => ⟨_, h cdv A outer s H E hr, ?_⟩
  obtain ⟨hl, G, qs, sub, r, q⟩ := q
  refine ⟨G, _, _, start_ok sub r, ?_⟩
  unfold runB at q
  cases ed : d (qs.map (fun p => some (.val p)) ++ List.replicate (N.length - qs.length) none) with
  | nx ρ =>
    rw [ed] at q
    exact fun σ' G' H' e S' => q .non G' H' (end_grow sub e S') .non
  | rt p ρ =>
    rw [ed] at q
    exact fun v σ' G' H' e S' r' => q v G' H' (end_grow sub e S') r'
  | exc c as ρ =>
    rw [ed] at q
    exact fun dd σ' G' H' e S' x' => q dd G' H' (end_grow sub e S') x'
  | stuck => rw [ed] at q; exact q
end Pl

set_option maxHeartbeats 4000000
/-! P4: list comprehensions, built-in functions, errors raised, the module's names. -/
namespace Pl
open PySem PySem.Spec PyProof.Rows L2

/-! ### comprehensions -/
def valsOf (ρ : Rho) : Rho := ρ.map fun x => match x with
  | some (.val p) => some (.val p)
  | _ => none
def wipeR (ρ : Rho) : List Nat → Rho
  | [] => ρ
  | v :: vs => (wipeR ρ vs).set v none
def compL (g : Tg) (t : DD Bool) (d : DE) (ρ : Rho) : List PV → Option (List PV)
  | [] => some []
  | p :: ps => match g.set p ρ with
    | none => none
    | some ρ1 => match t ρ1 with
      | .ok true ρ2 => (match d ρ2 with
        | .ok y _ => (compL g t d ρ ps).map (y :: ·)
        | _ => none)
      | .ok false _ => compL g t d ρ ps
      | _ => none
def dComp (vs : List Nat) (g : Tg) (di : DD (List PV)) (t : DD Bool) (d : DE) : DE := fun ρ => (di ρ).bind fun ps ρ => match compL g t d (wipeR (valsOf ρ) vs) ps with
  | some ys => if ps.length ≤ LIM then .ok (.lst ys) ρ else .stuck
  | none => .stuck
abbrev W0 : WX := fun _ _ _ _ => False
section
variable {F : Fx} {io : Option Addr} {W : WX} {Fr G G' H H' : Hp} {σ : L2.St} {ρ : Rho}
/-- what is tracked and does not stand still -/
def rest' (G H : Hp) : Hp := fun a => if (G a).isSome = true then none else H a
theorem vals_slot {i : Nat} {sv : SV} (e : (valsOf ρ)[i]? = some (some sv)) : ∃ p, sv = .val p ∧ ρ[i]? = some (some (.val p)) := by
  unfold valsOf at e
  rw [List.getElem?_map] at e
  cases q : ρ[i]? with
  | none => rw [q] at e; cases e
  | some o =>
    rw [q] at e
    cases o with
    | none => cases e
    | some s =>
      cases s with
      | val p => cases e; exact ⟨p, rfl, rfl⟩
      | own p => cases e
      | inp p => cases e
theorem StOk.vals (S : StOk F io G Fr H σ ρ) : StOk F none G (rest' G H) H σ (valsOf ρ) := by
  refine ⟨S.sub, fun a o e => ?_, fun a o e => by simp [rest', e], by simpa [valsOf] using S.len, fun i p e => ?_, fun i c e => ?_, fun i j c d a e => ?_, fun a e => (by cases e), fun i c e => ?_, fun i j c d e => ?_⟩
  · have e : (if (G a).isSome = true then none else H a) = some o := e
    split at e
    · cases e
    · exact e
  · obtain ⟨q, h1, h2⟩ := vals_slot e
    cases h1
    exact S.val i p h2
  · obtain ⟨q, h1, h2⟩ := vals_slot e; cases h1
  · obtain ⟨q, h1, h2⟩ := vals_slot e; cases h1
  · obtain ⟨q, h1, h2⟩ := vals_slot e; cases h1
  · obtain ⟨q, h1, h2⟩ := vals_slot e; cases h1
theorem StOk.wipes (S : StOk F io G Fr H σ ρ) : ∀ vs : List Nat, StOk F io G Fr H (wipe σ vs) (wipeR ρ vs)
  | [] => S
  | v :: vs => (StOk.wipes S vs).wipe1
theorem rest_grow (s : Same G H) (e : Same G G') (S : StOk F io G' (rest' G H) H' σ ρ) : Grow G H G' H' := end_grow s e S
theorem wipe_wipe (vs : List Nat) (σ : L2.St) : ∀ us : List Nat, (∀ i ∈ us, i ∈ vs) → wipe (wipe σ us) vs = wipe σ vs
  | [], _ => rfl
  | u :: us, h => by
    show wipe ((wipe σ us).set u none) vs = wipe σ vs
    rw [wipe_set (h u List.mem_cons_self)]
    exact wipe_wipe vs σ us fun i hi => h i (List.mem_cons_of_mem _ hi)
/-- an object that nobody names is changed -/
theorem StOk.upd_at {a : Addr} {o : HO} (S : StOk F io G Fr H σ ρ) (nG : G a = none) (nF : Fr a = none) (nI : io ≠ some a) (no : ∀ (j : Nat) (d : PV), ρ[j]? = some (some (SV.own d)) → σ[j]? ≠ some (some (V.ref a))) : StOk F io G Fr (upd H a o) σ ρ := by
  have k : ∀ b u, b ≠ a → H b = some u → upd H a o b = some u := fun b u n h => by rw [upd_ne n]; exact h
  refine ⟨fun b u h => k b u (ne_of_none h nG) (S.sub b u h), fun b u h => k b u (ne_of_none h nF) (S.fsub b u h), S.dis, S.len, S.val, fun i c e => ?_, S.sep, fun b e => ?_, fun i c e => ?_, S.one⟩
  · obtain ⟨b, h1, h2, h3, h4, h5⟩ := S.own i c e
    refine ⟨b, h1, h2, h3, h4.same (Same.refl _) fun u hu => k b u (fun z => ?_) hu, h5⟩
    subst z
    exact no i c e h1
  · obtain ⟨h1, h2, u, h3⟩ := S.iot b e
    exact ⟨h1, h2, u, k b u (fun z => nI (by rw [← z]; exact e)) h3⟩
  · obtain ⟨b, h1, h2, h3⟩ := S.inp i c e
    exact ⟨b, h1, h2, h3.same (Same.refl _) fun u hu => k b u (fun z => nI (by rw [← z]; exact h1)) hu⟩
theorem compL_len {g : Tg} {t : DD Bool} {d : DE} {ρ : Rho} : ∀ {ps ys : List PV}, compL g t d ρ ps = some ys → ys.length ≤ ps.length
  | [], ys, h => by cases h; exact Nat.le_refl _
  | p :: ps, ys, h => by
    unfold compL at h
    cases e : g.set p ρ with
    | none => rw [e] at h; cases h
    | some ρ1 =>
      rw [e] at h
      dsimp only at h
      split at h
      · split at h
        · rename_i y _ _
          cases e2 : compL g t d ρ ps with
          | none => rw [e2] at h; cases h
          | some zs =>
            rw [e2] at h
            cases h
            exact Nat.succ_le_succ (compL_len e2)
        · cases h
      · exact Nat.le_succ_of_le (compL_len h)
      · cases h
end
section
variable {X : Cx} {F : Fx} {io : Option Addr} {W : WX}
theorem comp_step {wi : TI} {tg : TG} {g : Tg} {di : DD (List PV)} {t : DD Bool} {d : DE} {vs : List Nat} {σ : L2.St} {H : Hp} {Q : VK} (hw : ∀ σ H R, tI F io W di σ H R → wi σ H R) (ht : TgOk F none tg g) (hv : ∀ i ∈ g.slots, i ∈ vs)
    (h : tE F io W (dComp vs g di t d) σ H Q) : tLc wi tg (tT F none W0 t) (tE F none W0 d) vs σ H Q := by
  obtain ⟨G0, Fr, ρ0, S0, q0⟩ := h
  refine hw σ H _ (tD.step S0 q0 fun J H1 G1 ρ1 ps e1 S1 Y q1 => ?_)
  intro D nD
  have q1 : Post (Rep F) F io W Fr G1 σ Q (match compL g t d (wipeR (valsOf ρ1) vs) ps with
    | some ys => if ps.length ≤ LIM then .ok (.lst ys) ρ1 else .stuck
    | none => .stuck) := q1
  cases ec : compL g t d (wipeR (valsOf ρ1) vs) ps with
  | none => rw [ec] at q1; exact q1.elim
  | some ys =>
    rw [ec] at q1
    have q1 : Post (Rep F) F io W Fr G1 σ Q (if ps.length ≤ LIM then .ok (.lst ys) ρ1 else .stuck) := q1
    by_cases hl : ps.length ≤ LIM
    · rw [if_pos hl] at q1
      have nF : Fr D = none := S1.fsub.free nD
      have nI : io ≠ some D := fun e => by
        obtain ⟨_, _, o, h⟩ := S1.iot D e
        rw [nD] at h
        cases h
      have no : ∀ (j : Nat) (c : PV), ρ1[j]? = some (some (SV.own c)) → σ[j]? ≠ some (some (V.ref D)) := fun j c e h => by
        obtain ⟨b, h1, _, _, h4, _⟩ := S1.own j c e
        rw [h] at h1
        cases h1
        obtain ⟨u, hu⟩ := h4.there
        rw [nD] at hu
        cases hu
      refine ⟨fun i m H => m = ps.length - i ∧ i ≤ ps.length ∧ ∃ G zs acc, Same G1 G ∧ StOk F io G Fr H σ ρ1 ∧ G D = none ∧ H D = some (.lst acc) ∧ Reps F G zs acc ∧ zs.length ≤ i ∧ (compL g t d (wipeR (valsOf ρ1) vs) (ps.drop i)).map (zs ++ ·) = some ys, ?_, ?_⟩
      · refine ⟨ps.length, by simp, Nat.zero_le _, G1, [], [], Same.refl _, S1.upd_at (S1.sub.free nD) nF nI no, S1.sub.free nD, upd_same, .nil, Nat.zero_le _, ?_⟩
        show (compL g t d (wipeR (valsOf ρ1) vs) ps).map _ = _
        rw [ec]
        rfl
      · rintro i m H2 ⟨rfl, hi, G2, zs, acc, e2, S2, nG, hD, ra, hz, em⟩
        by_cases hlt : i < ps.length
        · rw [List.drop_eq_getElem_cons hlt] at em
          refine .inr ⟨Y.go i G2 H2 hlt e2 S2.sub, fun H => i + 1 ≤ ps.length ∧ ∃ G zs acc, Same G1 G ∧ StOk F io G Fr H σ ρ1 ∧ G D = none ∧ H D = some (.lst acc) ∧ Reps F G zs acc ∧ zs.length ≤ i + 1 ∧ (compL g t d (wipeR (valsOf ρ1) vs) (ps.drop (i + 1))).map (zs ++ ·) = some ys, fun H' h => ⟨ps.length - (i + 1), by omega, rfl, h.1, h.2⟩, fun x H3 y => ?_⟩
          obtain ⟨G3, g3, r3⟩ := Y.yld i G2 H2 H3 x ps[i] (by simp [hlt]) e2 S2.sub y
          have S3 := S2.grow g3
          have nG3 : G3 D = none := g3.stays0 nG ⟨_, hD⟩
          have hD3 : H3 D = some (.lst acc) := g3.all _ _ hD
          unfold compL at em
          cases eg : g.set ps[i] (wipeR (valsOf ρ1) vs) with
          | none => rw [eg] at em; cases em
          | some ρ4 =>
            rw [eg] at em
            refine ht G3 _ H3 _ _ ρ4 ps[i] x _ (S3.vals.wipes vs) r3 eg fun σ4 S4 w4 => ⟨?_, ?_⟩
            · rw [w4 vs hv, wipe_wipe vs σ vs fun _ h => h]
            · refine ⟨G3, _, ρ4, S4, ?_⟩
              dsimp only at em
              cases et : t ρ4 with
              | exc c as ρ5 => rw [et] at em; cases em
              | stuck => rw [et] at em; cases em
              | ok k ρ5 =>
                rw [et] at em
                intro b G5 H5 e5 S5 rb
                have rb : k = b := rb
                subst rb
                have g5 := rest_grow S3.sub e5 S5
                have S6 := S3.grow g5
                have nG5 := g5.stays0 nG3 ⟨_, hD3⟩
                have hD5 := g5.all _ _ hD3
                cases k with
                | false =>
                  rw [if_neg Bool.false_ne_true]
                  exact ⟨hlt, G5, zs, acc, (e2.trans g3.gle).trans g5.gle, S6, nG5, hD5, (ra.same g3.gle).same g5.gle, Nat.le_succ_of_le hz, em⟩
                | true =>
                  rw [if_pos rfl]
                  refine ⟨G5, _, ρ5, S5, ?_⟩
                  dsimp only at em
                  cases ed : d ρ5 with
                  | exc c as ρ6 => rw [ed] at em; cases em
                  | stuck => rw [ed] at em; cases em
                  | ok z ρ6 =>
                    rw [ed] at em
                    intro u G7 H7 e7 S7 r7
                    have g7 : Grow G3 H3 G7 H7 := rest_grow S3.sub (e5.trans e7) S7
                    have nG7 := g7.stays0 nG3 ⟨_, hD3⟩
                    have hD7 := g7.all _ _ hD3
                    refine ⟨acc, hD7, ?_, hlt, G7, zs ++ [z], acc ++ [u], (e2.trans g3.gle).trans g7.gle, (S3.grow g7).upd_at nG7 nF nI no, nG7, upd_same, ((ra.same g3.gle).same g7.gle).append (.cons r7 .nil), ?_, ?_⟩
                    · rw [← ra.length]
                      have : LIM < sizeLine := by decide
                      omega
                    · rw [List.length_append]
                      exact Nat.succ_le_succ hz
                    · rw [← em]
                      cases compL g t d (wipeR (valsOf ρ1) vs) (ps.drop (i + 1)) with
                      | none => rfl
                      | some l => simp
        · have e : i = ps.length := by omega
          subst e
          refine .inl ⟨Y.stop G2 H2 e2 S2.sub, ?_⟩
          rw [List.drop_length] at em
          have em : some (zs ++ []) = some ys := em
          rw [List.append_nil] at em
          cases em
          -- the list stands still from now on
          have sD : Same G2 (upd G2 D (.lst acc)) := same_upd nG
          refine q1 (.ref D) (upd G2 D (.lst acc)) H2 (e2.trans sD) ?_ (.lst upd_same (ra.same sD))
          have g : StOk F io (upd G2 D (.lst acc)) Fr H2 σ ρ1 := by
            refine ⟨fun b o h => ?_, S2.fsub, fun b o h => ?_, S2.len, fun j p e => ?_, fun j c e => ?_, S2.sep, fun b e => ?_, fun j c e => ?_, S2.one⟩
            · by_cases z : b = D
              · subst z
                rw [upd_same] at h
                cases h
                exact hD
              · rw [upd_ne z] at h
                exact S2.sub b o h
            · by_cases z : b = D
              · subst z
                exact nF
              · rw [upd_ne z] at h
                exact S2.dis b o h
            · obtain ⟨v, h1, h2⟩ := S2.val j p e
              exact ⟨v, h1, h2.same sD⟩
            · obtain ⟨b, h1, h2, h3, h4, h5⟩ := S2.own j c e
              refine ⟨b, h1, ?_, h3, h4.same sD fun o h => h, h5⟩
              rw [upd_ne (fun z => no j c e (by rw [← z]; exact h1))]
              exact h2
            · obtain ⟨h1, h2, h3⟩ := S2.iot b e
              refine ⟨?_, h2, h3⟩
              rw [upd_ne (fun z => nI (by rw [← z]; exact e))]
              exact h1
            · obtain ⟨b, h1, h2, h3⟩ := S2.inp j c e
              exact ⟨b, h1, h2, h3.same sD fun o h => h⟩
          exact g
    · rw [if_neg hl] at q1
      exact q1.elim
theorem pp_comp {elt tg iter : Expr} {ifs : List Expr} {scope : Scope} {own : List (Str × Nat)} {pos : Pos} {tt : TG} {g : Tg} {di : DD (List PV)} {t : DD Bool} {d : DE} (hc : X.calm = true) (hN : X.N.Nodup) (hi : PI X tg iter (tI F io W di)) (ok : BlkOk X.N X.env.scope scope own)
    (ht : TgOk F none tt g) (hv : (g.slots.all fun i => (own.map (·.2)).contains i) = true)
    (hg : ∀ (s : Shared) (H : Hp) (C : Addr) (cl : List (Str × Addr)) (fp : List Addr), PG (X.blk s H scope (compEnvC scope cl C X.env) fp) tg tt)
    (hts : ∀ (s : Shared) (H : Hp) (C : Addr) (cl : List (Str × Addr)) (fp : List Addr), PTs (X.blk s H scope (compEnvC scope cl C X.env) fp) ifs (tT F none W0 t))
    (he : ∀ (s : Shared) (H : Hp) (C : Addr) (cl : List (Str × Addr)) (fp : List Addr), PE (X.blk s H scope (compEnvC scope cl C X.env) fp) elt (tE F none W0 d)) (hs : ∀ x, foldedSetIterable iter X.env x = pure x := by intro _; rfl) :
    PE X (.ListComp elt [⟨tg, iter, ifs, 0⟩] scope pos) (tE F io W (dComp (own.map (·.2)) g di t d)) :=
  (pe_lc hc hN hi ok hg hts he hs).imp fun σ H Q h => comp_step (fun _ _ _ z => z) ht (fun i m => by simpa using List.all_eq_true.mp hv i m) h
theorem st_setComp {i : Nat} {y : Str} {py : Pos} {elt tg iter : Expr} {ifs : List Expr} {scope : Scope} {own : List (Str × Nat)} {pos spos : Pos} {tt : TG} {g : Tg} {di : DD (List PV)} {t : DD Bool} {d : DE} (hc : X.calm = true) (hN : X.N.Nodup) (hy : X.N[i]? = some y) (hyl : X.env.scope.names.lookup y = some .local)
    (hsw : swapsWith (.ListComp elt [⟨tg, iter, ifs, 0⟩] scope pos) (some (.Name y py)) spos.line X.env = pure true) (hi : PI X tg iter (tI F io W di)) (ok : BlkOk X.N X.env.scope scope own) (ht : TgOk F none tt g) (hv : (g.slots.all fun i => (own.map (·.2)).contains i) = true)
    (hg : ∀ (s : Shared) (H : Hp) (C : Addr) (cl : List (Str × Addr)) (fp : List Addr), PG (X.blk s H scope (compEnvC scope cl C X.env) fp) tg tt)
    (hts : ∀ (s : Shared) (H : Hp) (C : Addr) (cl : List (Str × Addr)) (fp : List Addr), PTs (X.blk s H scope (compEnvC scope cl C X.env) fp) ifs (tT F none W0 t))
    (he : ∀ (s : Shared) (H : Hp) (C : Addr) (cl : List (Str × Addr)) (fp : List Addr), PE (X.blk s H scope (compEnvC scope cl C X.env) fp) elt (tE F none W0 d)) (hs : ∀ x, foldedSetIterable iter X.env x = pure x := by intro _; rfl) :
    PS X (.Assign [.Name y py] (.ListComp elt [⟨tg, iter, ifs, 0⟩] scope pos) spos) (tS F io W (sSet i (dComp (own.map (·.2)) g di t d))) :=
  (ps_setLc hc hN hy hyl hsw hi ok hg hts he hs).imp fun D σ H h => by
    have h2 := asg_step h
    exact comp_step (F := F) (io := io) (W := W) (fun _ _ _ z => z) ht (fun i m => by simpa using List.all_eq_true.mp hv i m) h2
def tyesD : DD Bool := fun ρ => .ok true ρ
theorem qts_nil : PTs X [] (tT F io W tyesD) := ⟨fun pins s σ H Q I ⟨G, Fr, ρ, S, q⟩ => pts_nil.run pins s σ H Q I (q.done S rfl)⟩
theorem qts_one {c : Expr} {t : DD Bool} (h : PT X c (tT F io W t)) : PTs X [c] (tT F io W t) := pts_one h

/-! ### built-in functions by name -/
def CalOk (F : Fx) (r : List V → Hp → VK → Prop) (f : List PV → Option PV) : Prop := ∀ (G H : Hp) (vs : List V) (xs : List PV) (z : PV) (Q : VK), Same G H → Reps F G xs vs → f xs = some z → (∀ v' G' H', Grow G H G' H' → Rep F G' z v' → Q v' H') → r vs H Q
def dFun (f : List PV → Option PV) (d : DD (List PV)) : DE := fun ρ => (d ρ).bind fun xs ρ => ofO (f xs) ρ
theorem fun_step {r : List V → Hp → VK → Prop} {f : List PV → Option PV} {d : DD (List PV)} {σ : L2.St} {H : Hp} {Q : VK} (hf : CalOk F r f) (h : tE F io W (dFun f d) σ H Q) : tCB r (tA F io W d) σ H Q := by
  obtain ⟨G, Fr, ρ, S, q⟩ := h
  refine tD.step S q fun vs H1 G1 ρ1 xs e1 S1 r1 q1 => ?_
  obtain ⟨z, hz, k⟩ := Post.ofO (γ := Unit) q1 S1
  exact hf G1 H1 vs xs z Q S1.sub r1 hz k
variable {x : Str} {p pos : Pos} {a b c e : Expr} {es : List Expr} {bid T : String} {r : List V → Hp → VK → Prop}
theorem pp_fun {f : List PV → Option PV} {d : DD (List PV)} (hc : CallR X (.builtin bid) r) (hf : CalOk F r f) (hm : X.mg x = none) (hv : bootBuiltins x = some (.builtin bid)) (hg : Gl X x) (ha : PA X (e :: es) (tA F io W d)) (hn : x ≠ "__name__" := by decide) (hdb : (x == ("__debug__" : Str)) = false := by decide)
    (h1 : starEach (e :: es) X.env = (false, eval e X.env) :: starEach es X.env := by rfl) (h2 : (backTo pos (starEach es X.env)).any (·.1) = false := by rfl) : PE X (.Call (.Name x p) (e :: es) [] pos) (tE F io W (dFun f d)) :=
  (pe_callB hc hg hm hv ha hn hdb h1 h2).imp fun σ H Q h => fun_step hf h
theorem pp_ty {f : List PV → Option PV} {d : DD (List PV)} (hc : CallR X (.type T) r) (hf : CalOk F r f) (hm : X.mg x = none) (hv : bootBuiltins x = some (.type T)) (hg : Gl X x) (ha : PA X (e :: es) (tA F io W d)) (hn : x ≠ "__name__" := by decide) (hdb : (x == ("__debug__" : Str)) = false := by decide)
    (h1 : starEach (e :: es) X.env = (false, eval e X.env) :: starEach es X.env := by rfl) (h2 : (backTo pos (starEach es X.env)).any (·.1) = false := by rfl) : PE X (.Call (.Name x p) (e :: es) [] pos) (tE F io W (dFun f d)) :=
  (pe_callTy hc hg hm hv ha hn hdb h1 h2).imp fun σ H Q h => fun_step hf h
def fLen : List PV → Option PV
  | [.lst xs] => some (.int xs.length)
  | [.tup xs] => some (.int xs.length)
  | [.scr ns] => some (.int ns.length)
  | [.str x] => if x.length ≤ LIM then some (.int x.length) else none
  | _ => none
def rLenA (K : PySem.W.Frag) : List V → Hp → VK → Prop := fun xs H Q => (∃ p ys, xs = [.ref p] ∧ (SqL K H p ys ∨ SqT K H p ys) ∧ Q (.int ys.length) H) ∨ (∃ x n, xs = [x] ∧ LenV K x H n ∧ Q (.int n) H)
theorem call_lenA : CallR X (.builtin "len") (rLenA X.K) := fun pins s σ H xs us Q I rx h => by
  rcases h with h | h
  · exact call_len_seq pins s σ H xs us Q I rx h
  · exact call_len pins s σ H xs us Q I rx h
theorem reps1 {G : Hp} {p : PV} {vs : List V} (r : Reps F G [p] vs) : ∃ v, vs = [v] ∧ Rep F G p v := by
  cases r with
  | cons h r => cases r; exact ⟨_, rfl, h⟩
theorem reps2 {G : Hp} {p q : PV} {vs : List V} (r : Reps F G [p, q] vs) : ∃ v u, vs = [v, u] ∧ Rep F G p v ∧ Rep F G q u := by
  cases r with
  | cons h r =>
    obtain ⟨u, rfl, h2⟩ := reps1 r
    exact ⟨_, _, rfl, h, h2⟩
theorem f_len (hK : F.K = X.K) : CalOk F (rLenA X.K) fLen := by
  intro G H vs xs z Q s rx e k
  unfold fLen at e
  split at e
  · obtain ⟨v, rfl, h⟩ := reps1 rx
    cases e
    cases h with
    | lst h r => exact .inl ⟨_, _, rfl, .inl (.of (s _ _ h)), by rw [← r.length]; exact k _ G H (Grow.refl s) (.int _)⟩
  · obtain ⟨v, rfl, h⟩ := reps1 rx
    cases e
    cases h with
    | tup h r => exact .inl ⟨_, _, rfl, .inr (by rw [← hK]; exact SqT.same s h), by rw [← r.length]; exact k _ G H (Grow.refl s) (.int _)⟩
  · obtain ⟨v, rfl, h⟩ := reps1 rx
    cases e
    cases h with
    | scr h => exact .inl ⟨_, _, rfl, .inl (by rw [← hK]; exact Same.seq s h), by rw [List.length_map]; exact k _ G H (Grow.refl s) (.int _)⟩
  · obtain ⟨v, rfl, h⟩ := reps1 rx
    obtain ⟨l, rfl⟩ := ite_some e
    cases h
    exact .inr ⟨_, _, rfl, ⟨lim_line l, rfl⟩, k _ G H (Grow.refl s) (.int _)⟩
  · cases e
def allBl : List PV → Option (List Bool)
  | [] => some []
  | .bl b :: ps => (allBl ps).map (b :: ·)
  | _ => none
def allInt : List PV → Option (List Int)
  | [] => some []
  | .int b :: ps => (allInt ps).map (b :: ·)
  | _ => none
theorem bls_of {G : Hp} : ∀ {ps : List PV} {vs : List V} {bs : List Bool}, Reps F G ps vs → allBl ps = some bs → vs = bs.map V.bl
  | _, _, _, .nil, e => by cases e; rfl
  | p :: ps, _, bs, .cons h r, e => by
    cases h <;> first | (exfalso; cases e; done) | skip
    case bl b =>
      unfold allBl at e
      cases q : allBl ps with
      | none => rw [q] at e; cases e
      | some l => rw [q] at e; cases e; rw [bls_of r q]; rfl
theorem ints_of {G : Hp} : ∀ {ps : List PV} {vs : List V} {bs : List Int}, Reps F G ps vs → allInt ps = some bs → vs = bs.map V.int
  | _, _, _, .nil, e => by cases e; rfl
  | p :: ps, _, bs, .cons h r, e => by
    cases h <;> first | (exfalso; cases e; done) | skip
    case int b =>
      unfold allInt at e
      cases q : allInt ps with
      | none => rw [q] at e; cases e
      | some l => rw [q] at e; cases e; rw [ints_of r q]; rfl
def fAll : List PV → Option PV
  | [.lst xs] => (allBl xs).map fun bs => .bl (bs.all id)
  | _ => none
def fAny : List PV → Option PV
  | [.lst xs] => (allBl xs).map fun bs => .bl (bs.any id)
  | _ => none
def fSum : List PV → Option PV
  | [.lst xs] => (allInt xs).map fun bs => .int bs.sum
  | _ => none
theorem f_all : CalOk F (rAll X.K) fAll := by
  intro G H vs xs z Q s rx e k
  unfold fAll at e
  split at e
  · obtain ⟨v, rfl, h⟩ := reps1 rx
    rename_i xs
    cases q : allBl xs with
    | none => rw [q] at e; cases e
    | some bs =>
      rw [q] at e
      cases e
      cases h with
      | lst h r => exact ⟨_, bs, rfl, .of (by rw [← bls_of r q]; exact s _ _ h), k _ G H (Grow.refl s) (.bl _)⟩
  · cases e
theorem f_any : CalOk F (rAny X.K) fAny := by
  intro G H vs xs z Q s rx e k
  unfold fAny at e
  split at e
  · obtain ⟨v, rfl, h⟩ := reps1 rx
    rename_i xs
    cases q : allBl xs with
    | none => rw [q] at e; cases e
    | some bs =>
      rw [q] at e
      cases e
      cases h with
      | lst h r => exact ⟨_, bs, rfl, .of (by rw [← bls_of r q]; exact s _ _ h), k _ G H (Grow.refl s) (.bl _)⟩
  · cases e
theorem f_sum : CalOk F (rSum X.K) fSum := by
  intro G H vs xs z Q s rx e k
  unfold fSum at e
  split at e
  · obtain ⟨v, rfl, h⟩ := reps1 rx
    rename_i xs
    cases q : allInt xs with
    | none => rw [q] at e; cases e
    | some bs =>
      rw [q] at e
      cases e
      cases h with
      | lst h r => exact ⟨_, bs, rfl, .of (by rw [← ints_of r q]; exact s _ _ h), k _ G H (Grow.refl s) (.int _)⟩
  · cases e
def fAbs : List PV → Option PV
  | [.int i] => some (.int (if i < 0 then -i else i))
  | _ => none
theorem f_abs : CalOk F (fun xs H Q => ∃ i, xs = [.int i] ∧ Q (.int (if i < 0 then -i else i)) H) fAbs := by
  intro G H vs xs z Q s rx e k
  unfold fAbs at e
  split at e
  · obtain ⟨v, rfl, h⟩ := reps1 rx
    cases e
    cases h
    exact ⟨_, rfl, k _ G H (Grow.refl s) (.int _)⟩
  · cases e
def fMax2 : List PV → Option PV
  | [.int i, .int j] => some (.int (if j > i then j else i))
  | _ => none
theorem f_max2 : CalOk F (fun xs H Q => ∃ i j, xs = [.int i, .int j] ∧ Q (.int (if j > i then j else i)) H) fMax2 := by
  intro G H vs xs z Q s rx e k
  unfold fMax2 at e
  split at e
  · obtain ⟨v, u, rfl, h, h2⟩ := reps2 rx
    cases e
    cases h
    cases h2
    exact ⟨_, _, rfl, k _ G H (Grow.refl s) (.int _)⟩
  · cases e
def fMin2 : List PV → Option PV
  | [.int i, .int j] => some (.int (if j < i then j else i))
  | _ => none
theorem f_min2 : CalOk F (fun xs H Q => ∃ i j, xs = [.int i, .int j] ∧ Q (.int (if j < i then j else i)) H) fMin2 := by
  intro G H vs xs z Q s rx e k
  unfold fMin2 at e
  split at e
  · obtain ⟨v, u, rfl, h, h2⟩ := reps2 rx
    cases e
    cases h
    cases h2
    exact ⟨_, _, rfl, k _ G H (Grow.refl s) (.int _)⟩
  · cases e
def fInt : List PV → Option PV
  | [.int i] => some (.int i)
  | [.bl k] => some (.int (if k then 1 else 0))
  | _ => none
theorem f_int : CalOk F (fun xs H Q => (∃ i, xs = [.int i] ∧ Q (.int i) H) ∨ ∃ k, xs = [.bl k] ∧ Q (.int (if k then 1 else 0)) H) fInt := by
  intro G H vs xs z Q s rx e k
  unfold fInt at e
  split at e
  · obtain ⟨v, rfl, h⟩ := reps1 rx
    cases e
    cases h
    exact .inl ⟨_, rfl, k _ G H (Grow.refl s) (.int _)⟩
  · obtain ⟨v, rfl, h⟩ := reps1 rx
    cases e
    cases h
    exact .inr ⟨_, rfl, k _ G H (Grow.refl s) (.int _)⟩
  · cases e
def fTuple : List PV → Option PV
  | [.lst xs] => some (.tup xs)
  | [.tup xs] => some (.tup xs)
  | _ => none
def fList : List PV → Option PV
  | [.scr ns] => some (.lst (ns.map PV.int))
  | [.lst xs] => some (.lst xs)
  | [.tup xs] => some (.lst xs)
  | _ => none
theorem f_tuple (hK : F.K = X.K) : CalOk F (fun xs H Q => ∃ p ys, xs = [.ref p] ∧ ((SqL X.K H p ys ∧ ∀ l, H l = none → Q (.ref l) (upd H l (.tup ys))) ∨ (SqT X.K H p ys ∧ Q (.ref p) H))) fTuple := by
  intro G H vs xs z Q s rx e k
  unfold fTuple at e
  split at e
  · obtain ⟨v, rfl, h⟩ := reps1 rx
    cases e
    cases h with
    | lst h r => exact ⟨_, _, rfl, .inl ⟨.of (s _ _ h), fun l n => k _ _ _ (Grow.new1 s n) (.tup (.inl (.inl upd_same)) (r.same (same_upd (s.free n))))⟩⟩
  · obtain ⟨v, rfl, h⟩ := reps1 rx
    cases e
    cases h with
    | tup h r => exact ⟨_, _, rfl, .inr ⟨by rw [← hK]; exact SqT.same s h, k _ G H (Grow.refl s) (.tup h r)⟩⟩
  · cases e
theorem reps_ints {G : Hp} : ∀ ns : List Int, Reps F G (ns.map PV.int) (ns.map V.int)
  | [] => .nil
  | n :: ns => .cons (.int n) (reps_ints ns)
theorem f_list (hK : F.K = X.K) : CalOk F (fun xs H Q => ∃ p ys, xs = [.ref p] ∧ (SqL X.K H p ys ∨ SqT X.K H p ys) ∧ ∀ l, H l = none → Q (.ref l) (upd H l (.lst ys))) fList := by
  intro G H vs xs z Q s rx e k
  unfold fList at e
  split at e
  · obtain ⟨v, rfl, h⟩ := reps1 rx
    cases e
    cases h with
    | scr h => exact ⟨_, _, rfl, .inl (by rw [← hK]; exact Same.seq s h), fun l n => k _ _ _ (Grow.new1 s n) (.lst upd_same (reps_ints _))⟩
  · obtain ⟨v, rfl, h⟩ := reps1 rx
    cases e
    cases h with
    | lst h r => exact ⟨_, _, rfl, .inl (.of (s _ _ h)), fun l n => k _ _ _ (Grow.new1 s n) (.lst upd_same (r.same (same_upd (s.free n))))⟩
  · obtain ⟨v, rfl, h⟩ := reps1 rx
    cases e
    cases h with
    | tup h r => exact ⟨_, _, rfl, .inr (by rw [← hK]; exact SqT.same s h), fun l n => k _ _ _ (Grow.new1 s n) (.lst upd_same (r.same (same_upd (s.free n))))⟩
  · cases e
/-- isinstance(x, T), T a built-in type -/
def tyP : PV → Option String
  | .non => some "NoneType"
  | .bl _ => some "bool"
  | .int _ => some "int"
  | .str _ => some "str"
  | .tup _ => some "tuple"
  | .lst _ => some "list"
  | _ => none
def isiT (t T : String) : Bool := t == T || (t == "bool" && T == "int")
def pIsi (T : String) (x : PV) : Option PV := (tyP x).map fun t => .bl (isiT t T)
def dIsi (T : String) (d : DE) : DE := fun ρ => (d ρ).bind fun x ρ => ofO (pIsi T x) ρ
theorem tyX_of {K : PySem.W.Frag} {G H : Hp} {q : PV} {v : V} {t : String} (hK : F.K = K) (s : Same G H) (r : Rep F G q v) (h : tyP q = some t) : TyX K H v (.type t) := by
  subst hK
  cases r <;> first | (exfalso; cases h; done) | skip
  case non => cases h; exact .base .non
  case bl b => cases h; exact .base (.bl _)
  case int i => cases h; exact .base (.int _)
  case str x => cases h; exact .base (.str _)
  case lst ps a vs h1 r1 => cases h; exact .base (.lst (s _ _ h1))
  case tup ps a vs h1 r1 =>
    cases h
    rcases h1 with (h1 | ⟨o, h1⟩) | ⟨o, its, n, h1, h2, _⟩
    · exact .base (.tup (s _ _ h1))
    · exact .fTuple (s _ _ h1)
    · exact .kTuple h1 h2
theorem pp_isi {T : String} {y : Str} {p2 : Pos} {d : DE} (hK : F.K = X.K) (hT : T = "int" ∨ T = "bool" ∨ T = "str" ∨ T = "tuple" ∨ T = "list" ∨ T = "dict") (hm : X.mg "isinstance" = none) (hg : Gl X "isinstance") (hm2 : X.mg y = none) (hv2 : bootBuiltins y = some (.type T)) (hg2 : Gl X y) (hn2 : y ≠ "__name__" := by decide) (hd2 : (y == ("__debug__" : Str)) = false := by decide)
    (ha : PE X a (tE F io W d)) (h1 : starEach [a, .Name y p2] X.env = (false, eval a X.env) :: starEach [.Name y p2] X.env := by rfl) (h2 : (backTo pos (starEach [.Name y p2] X.env)).any (·.1) = false := by rfl) (h3 : starEach [.Name y p2] X.env = (false, eval (.Name y p2) X.env) :: starEach [] X.env := by rfl) :
    PE X (.Call (.Name "isinstance" p) [a, .Name y p2] [] pos) (tE F io W (dIsi T d)) := by
  refine (pe_callB call_isi hg hm (by decide +kernel) (pa_cons ha (pa_cons (pe_bltn (v := .ty T) hg2 hm2 hv2 rfl hn2 hd2) pa_nil h3) h1) (by decide) (by decide) h1 h2).imp fun σ H Q ⟨G, Fr, ρ, S, q⟩ => ?_
  refine tD.step S q fun v H1 G1 ρ1 x e1 S1 r1 q1 => ?_
  obtain ⟨z, hz, k⟩ := Post.ofO (γ := Unit) q1 S1
  unfold pIsi at hz
  cases et : tyP x with
  | none => rw [et] at hz; cases hz
  | some t =>
    rw [et] at hz
    cases hz
    have e2 : t = "NoneType" ∨ t = "bool" ∨ t = "int" ∨ t = "str" ∨ t = "tuple" ∨ t = "list" := by
      cases x <;> first | (exfalso; cases et; done) | (cases et; simp)
    refine ⟨v, .ty T, .type t, .type T, isiT t T, rfl, .ty T, tyX_of hK S1.sub r1 et, ?_, k _ G1 H1 (Grow.refl S1.sub) (.bl _)⟩
    rcases e2 with rfl | rfl | rfl | rfl | rfl | rfl <;> rcases hT with rfl | rfl | rfl | rfl | rfl | rfl <;> exact kit_ty (by decide +kernel)
end
end Pl

set_option maxHeartbeats 4000000
/-! P5: the module's names and tables, errors raised, objects of one's own, texts, min of four. -/
namespace Pl
open PySem PySem.Spec PyProof.Rows L2

/-! ### min of four ints -/
section
variable {prog : Program} {w : World} {A : Around} {E : Value → Shared → Prop} {s : Shared}
theorem args_min4 (a b c d : Value) : argsOk "min" ⟨[a, b, c, d], []⟩ := by unfold argsOk; kernel_rfl
theorem min_four_of {a b c d : Value} {Q : Value → Shared → Prop}
    (h : wpAny (model prog w) A.in1 (pyIter (.ref s.heap.objs.size)) (fun it s₂ => ∃ I fp wr n P St bt, it = .ref I ∧ Walks prog w A.in1 I fp wr n P St ∧ St 0 s₂.heap ∧ (∀ b ∈ fp, b < s₂.heap.objs.size) ∧ 0 < n ∧ CmpOf prog w A.in1 .Lt P bt ∧
      ∀ v h' tk, P (argBest bt (n - 1)) v → (∀ b o, b ∉ wr → s₂.heap.get? b = some o → h'.get? b = some o) → Q v { s₂ with heap := h', toks := tk }) E
      { s with heap := s.heap.push { cls := .type "tuple", data := .seq #[a, b, c, d] } }) :
    wpAny (model prog w) A (call (.builtin "min") [a, b, c, d]) Q E s := by
  have nm : (toString "min" ++ toString ".loop" : String) = "min.loop" := by decide
  refine call_function_tree F.kind_min F.plain_min F.entry_min (args_min4 _ _ _ _) ?_
  show wpAny _ A.in1 (Builtin.Builtins.bindParams "min" ["key", "default"] 0 ⟨[], []⟩ >>= _) _ _ s
  refine wpAny_bind (wpAny_of_eq (show Builtin.Builtins.bindParams "min" ["key", "default"] 0 ⟨[], []⟩ = pure [none, none] from rfl) ?_)
  show wpAny _ A.in1 (newTuple [a, b, c, d] >>= _) _ _ s
  refine wpAny_bind (wpAny_newObj_type ?_)
  refine wpAny_bind (wpAny_mono h (fun it s₂ h₂ => ?_) fun _ _ e => e)
  obtain ⟨I, fp, wr, n, P, St, bt, rfl, W, hst, hfp, hn, hcmp, hQ⟩ := h₂
  refine wpAny_bind (wpAny_newObj_type ?_)
  have hSf : s₂.heap.objs.size ∉ fp := fun hm => Nat.lt_irrefl _ (hfp _ hm)
  rw [nm]
  refine wpAny_pure ⟨plainId_quiet F.plain_min_loop _, codeAny_min_loop_first W bt hcmp s₂.heap.objs.size hSf hn (W.frame _ _ _ hst fun b _ o e => Heap.get?_push_of_some _ e) (Heap.get?_push_size _ rfl) fun v h' tk hP hk => ?_⟩
  exact hQ v h' tk hP fun b o hbw e => hk b o hbw (Nat.ne_of_lt (Heap.lt_size e)) (Heap.get?_push_of_some _ e)
theorem min_four {a b c d : Int} {t u v y : Tok} {Q : Value → Shared → Prop} (hh : A.handled = none)
    (h : ∀ h' tk m z, (∀ c o, s.heap.get? c = some o → h'.get? c = some o) → m = min (min a b) (min c d) → Q (.int m z) { s with heap := h', toks := tk }) :
    wpAny (model prog w) A (call (.builtin "min") [.int a t, .int b u, .int c v, .int d y]) Q E s := by
  have hT : (s.heap.push { cls := .type "tuple", data := .seq #[.int a t, .int b u, .int c v, .int d y] }).IsTuple s.heap.objs.size (intItems #[(a, t), (b, u), (c, v), (d, y)]) := ⟨_, Heap.get?_push_size _ rfl, rfl, 0, by simp [intItems]⟩
  refine min_four_of (wpAny_pyIter_tuple hT ?_)
  have hsz : (s.heap.push { cls := .type "tuple", data := .seq #[.int a t, .int b u, .int c v, .int d y] }).objs.size = s.heap.objs.size + 1 := Heap.size_push ..
  refine ⟨_, [_, s.heap.objs.size], [_], _, _, _, _, rfl, Walks.tuple (A := A.in1) hh _ s.heap.objs.size (by rw [hsz]; exact Nat.ne_of_lt (Nat.lt_succ_self _)) (intItems #[(a, t), (b, u), (c, v), (d, y)]),
    ⟨⟨_, Heap.get?_push_size _ rfl, rfl, rfl⟩, hT.push _⟩, fun c hc => ?_, by simp [intItems], CmpOf.ints_lt (numAt #[(a, t), (b, u), (c, v), (d, y)]) (fun _ _ => intItems_at), fun r h' tk hP hk => ?_⟩
  · show c < ((s.heap.push _).push _).objs.size
    rw [Heap.size_push, hsz]
    rcases List.mem_cons.mp hc with rfl | hc
    · rw [hsz]; exact Nat.lt_succ_self _
    · rcases List.mem_cons.mp hc with rfl | hc
      · exact Nat.lt_succ_of_lt (Nat.lt_succ_self _)
      · cases hc
  · have hold : ∀ c o, s.heap.get? c = some o → h'.get? c = some o := fun c o e => by
      refine hk c o (fun hm => ?_) (Heap.get?_push_of_some _ (Heap.get?_push_of_some _ e))
      rcases List.mem_cons.mp hm with e1 | hm
      · have := Heap.lt_size e; rw [e1, hsz] at this; exact Nat.lt_irrefl _ (Nat.lt_of_succ_lt this)
      · cases hm
    have hP' : (intItems #[(a, t), (b, u), (c, v), (d, y)])[argBest (fun i j => decide (numAt #[(a, t), (b, u), (c, v), (d, y)] i < numAt #[(a, t), (b, u), (c, v), (d, y)] j)) 3]? = some r := by
      have hsz2 : (intItems #[(a, t), (b, u), (c, v), (d, y)]).size - 1 = 3 := by simp [intItems]
      rw [← hsz2]; exact hP
    obtain ⟨b1, b2⟩ := argBest_lt (numAt #[(a, t), (b, u), (c, v), (d, y)]) 3
    generalize argBest (fun i j => decide (numAt #[(a, t), (b, u), (c, v), (d, y)] i < numAt #[(a, t), (b, u), (c, v), (d, y)] j)) 3 = k at *
    have m0 := b2 0 (by omega)
    have m1 := b2 1 (by omega)
    have m2 := b2 2 (by omega)
    have m3 := b2 3 (by omega)
    have e0 : numAt #[(a, t), (b, u), (c, v), (d, y)] 0 = a := rfl
    have e1 : numAt #[(a, t), (b, u), (c, v), (d, y)] 1 = b := rfl
    have e2 : numAt #[(a, t), (b, u), (c, v), (d, y)] 2 = c := rfl
    have e3 : numAt #[(a, t), (b, u), (c, v), (d, y)] 3 = d := rfl
    rw [e0] at m0
    rw [e1] at m1
    rw [e2] at m2
    rw [e3] at m3
    rcases (show k = 0 ∨ k = 1 ∨ k = 2 ∨ k = 3 by omega) with rfl | rfl | rfl | rfl
    · rw [e0] at m1 m2 m3
      have hP' : some (Value.int a t) = some r := by simpa [intItems] using hP'
      cases hP'
      exact h h' tk a t hold (by omega)
    · rw [e1] at m0 m2 m3
      have hP' : some (Value.int b u) = some r := by simpa [intItems] using hP'
      cases hP'
      exact h h' tk b u hold (by omega)
    · rw [e2] at m0 m1 m3
      have hP' : some (Value.int c v) = some r := by simpa [intItems] using hP'
      cases hP'
      exact h h' tk c v hold (by omega)
    · rw [e3] at m0 m1 m2
      have hP' : some (Value.int d y) = some r := by simpa [intItems] using hP'
      cases hP'
      exact h h' tk d y hold (by omega)
end
section
variable {X : Cx} {F : Fx} {io : Option Addr} {W : WX}
theorem call_min4 (hc : X.calm = true) : CallR X (.builtin "min") (fun xs H Q => ∃ a b c d, xs = [.int a, .int b, .int c, .int d] ∧ Q (.int (min (min a b) (min c d))) H) := by
  intro pins s σ H xs us Q I r h
  obtain ⟨a, b, c, d, rfl, q⟩ := h
  cases r with
  | cons r1 r =>
    cases r with
    | cons r2 r =>
      cases r with
      | cons r3 r =>
        cases r with
        | cons r4 r =>
          cases r
          obtain ⟨t, rfl⟩ := r1
          obtain ⟨u, rfl⟩ := r2
          obtain ⟨v, rfl⟩ := r3
          obtain ⟨y, rfl⟩ := r4
          refine min_four (I.ok.hd hc) fun h' tk m z k e => ⟨_, H, I.kept k, ?_, q⟩
          subst e
          exact ⟨_, rfl⟩
def fMin4 : List PV → Option PV
  | [.int a, .int b, .int c, .int d] => some (.int (min (min a b) (min c d)))
  | _ => none
theorem f_min4 : CalOk F (fun xs H Q => ∃ a b c d, xs = [.int a, .int b, .int c, .int d] ∧ Q (.int (min (min a b) (min c d))) H) fMin4 := by
  intro G H vs xs z Q s rx e k
  unfold fMin4 at e
  split at e
  · cases e
    cases rx with
    | cons r1 r =>
      cases r with
      | cons r2 r =>
        obtain ⟨u, w, rfl, h2, h3⟩ := reps2 r
        cases r1
        cases r2
        cases h2
        cases h3
        exact ⟨_, _, _, _, rfl, k _ G H (Grow.refl s) (.int _)⟩
  · cases e
/-! ### join -/
def allStr : List PV → Option (List Str)
  | [] => some []
  | .str b :: ps => (allStr ps).map (b :: ·)
  | _ => none
theorem strs_of {G : Hp} : ∀ {ps : List PV} {vs : List V} {bs : List Str}, Reps F G ps vs → allStr ps = some bs → vs = bs.map V.str
  | _, _, _, .nil, e => by cases e; rfl
  | p :: ps, _, bs, .cons h r, e => by
    cases h <;> first | (exfalso; cases e; done) | skip
    case str b =>
      unfold allStr at e
      cases q : allStr ps with
      | none => rw [q] at e; cases e
      | some l => rw [q] at e; cases e; rw [strs_of r q]; rfl
def pJoin (x y : PV) : Option PV := match x, y with
  | .str a, .lst ys => (match allStr ys with
    | some bs => if (bs.map (·.length)).sum + bs.length * a.length ≤ LIM then some (.str (Txt.join a bs)) else none
    | none => none)
  | _, _ => none
/-- a method of one argument, by values -/
def MtOk (F : Fx) (r : V → List V → Hp → VK → Prop) (f : PV → PV → Option PV) : Prop := ∀ (G H : Hp) (v u : V) (x y z : PV) (Q : VK), Same G H → Rep F G x v → Rep F G y u → f x y = some z → (∀ v' G' H', Grow G H G' H' → Rep F G' z v' → Q v' H') → r v [u] H Q
def isStr : PV → Bool
  | .str _ => true
  | _ => false
def dBinS (f : PV → PV → Option PV) (da db : DE) : DE := fun ρ => (da ρ).bind fun x ρ => if isStr x = true then (db ρ).bind fun y ρ => ofO (f x y) ρ else .stuck
theorem m1_step {r : V → List V → Hp → VK → Prop} {f : PV → PV → Option PV} {da db : DE} (hm : MtOk F r f) {σ : L2.St} {H : Hp} {Q : VK} (h : tE F io W (dBinS f da db) σ H Q) : tM1 r (tE F io W da) (tE F io W db) σ H Q := by
  obtain ⟨G, Fr, ρ, S, q⟩ := h
  refine tD.step S q fun v H1 G1 ρ1 x e1 S1 r1 q1 => ?_
  by_cases hx : isStr x = true
  · rw [if_pos hx] at q1
    refine ⟨?_, tD.step S1 q1 fun u H2 G2 ρ2 y e2 S2 r2 q2 => ?_⟩
    · cases r1 <;> first | exact ⟨_, rfl⟩ | cases hx
    obtain ⟨z, hz, k⟩ := Post.ofO (γ := Unit) q2 S2
    exact hm G2 H2 v u x y z Q S2.sub (r1.same e2) r2 hz k
  · rw [if_neg hx] at q1
    exact q1.elim
variable {o e : Expr} {apos pos : Pos}
theorem pp_join {da db : DE} (ho : PE X o (tE F io W da)) (he : PE X e (tE F io W db)) (hs : starEach [e] X.env = [(false, eval e X.env)] := by rfl) (hbase : attributeBase o "join" X.env (eval o X.env) = eval o X.env := by rfl) (hline : (apos.endLine == pos.line) = true := by rfl) :
    PE X (.Call (.Attribute o "join" apos) [e] [] pos) (tE F io W (dBinS pJoin da db)) := by
  refine (pe_join ho he hs hbase hline).imp fun σ H Q h => m1_step (F := F) (io := io) (W := W) (f := pJoin) ?_ h
  intro G H v u x y z Q s rx ry e k
  cases rx <;> cases ry <;> first | (exfalso; cases e; done) | skip
  case str.lst a ys b us hy ry =>
    unfold pJoin at e
    dsimp only at e
    cases q : allStr ys with
    | none => rw [q] at e; cases e
    | some bs =>
      rw [q] at e
      obtain ⟨l, rfl⟩ := ite_some e
      exact ⟨_, _, bs, rfl, rfl, .inl (.of (by rw [← strs_of ry q]; exact s _ _ hy)), lim_line l, k _ G H (Grow.refl s) (.str _)⟩
end
end Pl

set_option maxHeartbeats 4000000
/-! P6: the module's names and tables, errors raised, objects of one's own, what is handed in to be changed. -/
namespace Pl
open PySem PySem.Spec PyProof.Rows L2

section
variable {X : Cx} {F : Fx} {io : Option Addr} {W : WX} {a b e : Expr} {es : List Expr} {pos : Pos}
/-! ### the module's constants -/
theorem pp_gint {x : Str} {i : Int} (hm : ∃ t, X.mg x = some (.int i t)) (hg : Gl X x) (hd : (x == ("__debug__" : Str)) = false := by decide) : PE X (.Name x pos) (tE F io W (dC (.int i))) := by
  obtain ⟨t, hm⟩ := hm
  exact pp_c (pe_glob (v := .int i) hg hm ⟨t, rfl⟩ hd) fun _ => .int i
theorem pp_gstr {x z : Str} (hm : ∃ t, X.mg x = some (.str z t)) (hg : Gl X x) (hd : (x == ("__debug__" : Str)) = false := by decide) : PE X (.Name x pos) (tE F io W (dC (.str z))) := by
  obtain ⟨t, hm⟩ := hm
  exact pp_c (pe_glob (v := .str z) hg hm ⟨t, rfl⟩ hd) fun _ => .str z
/-- a tuple of the module's top -/
theorem pp_gtup {x : Str} {a : Addr} {p : PV} (hm : X.mg x = some (.ref a)) (r : ∀ G, Rep F G p (.ref a)) (hg : Gl X x) (hd : (x == ("__debug__" : Str)) = false := by decide) : PE X (.Name x pos) (tE F io W (dC p)) :=
  pp_c (pe_glob (v := .ref a) hg hm rfl hd) r

/-! ### plain values that stand in the written part -/
mutual
def repB (K : PySem.W.Frag) : PV → Value → Bool
  | .non, .none => true
  | .bl b, .bool c => b == c
  | .int i, .int j _ => decide (i = j)
  | .str x, .str y _ => decide (x = y)
  | .tup ps, .ref a => (match K.lookup a with
    | some ⟨.type "tuple", _, .seq its _, _⟩ => decide (its.size ≤ sizeLine) && repsB K ps its.toList
    | _ => false)
  | _, _ => false
def repsB (K : PySem.W.Frag) : List PV → List Value → Bool
  | [], [] => true
  | p :: ps, u :: us => repB K p u && repsB K ps us
  | _, _ => false
end
mutual
theorem repB_ok : ∀ {p : PV} {u : Value}, repB F.K p u = true → ∃ v, RelV v u ∧ ∀ G, Rep F G p v
  | .non, .none, _ => ⟨.non, rfl, fun _ => .non⟩
  | .bl b, .bool c, h => by
    have e : b = c := eq_of_beq h
    subst e
    exact ⟨.bl b, rfl, fun _ => .bl b⟩
  | .int i, .int j t, h => by
    have e : i = j := of_decide_eq_true h
    subst e
    exact ⟨.int i, ⟨t, rfl⟩, fun _ => .int i⟩
  | .str x, .str y t, h => by
    have e : x = y := of_decide_eq_true h
    subst e
    exact ⟨.str x, ⟨t, rfl⟩, fun _ => .str x⟩
  | .tup ps, .ref a, h => by
    unfold repB at h
    split at h
    · rename_i dd its n sl q
      obtain ⟨h1, h2⟩ := Bool.and_eq_true_iff.mp h
      obtain ⟨vs, r, g⟩ := repsB_ok h2
      exact ⟨.ref a, rfl, fun G => .tup (.inr ⟨_, its, n, q, rfl, rfl, of_decide_eq_true h1, r⟩) (g G)⟩
    · cases h
  | .lst _, _, h => by cases h
  | .dct _ _, _, h => by cases h
  | .dks _ _, _, h => by cases h
  | .ins _ _, _, h => by cases h
  | .scr _, _, h => by cases h
theorem repsB_ok : ∀ {ps : List PV} {us : List Value}, repsB F.K ps us = true → ∃ vs, Vals vs us ∧ ∀ G, Reps F G ps vs
  | [], [], _ => ⟨[], .nil, fun _ => .nil⟩
  | p :: ps, u :: us, h => by
    obtain ⟨h1, h2⟩ := Bool.and_eq_true_iff.mp (show (repB F.K p u && repsB F.K ps us) = true from h)
    obtain ⟨v, r, g⟩ := repB_ok h1
    obtain ⟨vs, r2, g2⟩ := repsB_ok h2
    exact ⟨v :: vs, .cons r r2, fun G => .cons (g G) (g2 G)⟩
end
/-- a dict of the module's top with text keys -/
def tabEs (K : PySem.W.Frag) : List (Str × PV) → List DictEntry → Bool
  | [], [] => true
  | q :: qs, e :: es => (match e.key with
    | .str x _ => decide (x = q.1)
    | _ => false) && (repB K q.2 e.val && tabEs K qs es)
  | _, _ => false
def tabB (K : PySem.W.Frag) (a : Addr) (kvs : List (Str × PV)) : Bool := match K.lookup a with
  | some ⟨_, _, .dict es _, _⟩ => tabEs K kvs es.toList
  | _ => false
structure TabOk (F : Fx) (a : Addr) (kvs : List (Str × PV)) : Prop where
  kd : ∃ es n, KDict F.K F.w a es n
  vals : tabB F.K a kvs = true
theorem tab_find {z : Str} : ∀ {kvs : List (Str × PV)} {es : List DictEntry}, tabEs F.K kvs es = true → es.any (·.refKey) = false ∧ match kvs.lookup z with
    | some p => ∃ e v, es.find? (·.key.isStr z) = some e ∧ RelV v e.val ∧ ∀ G, Rep F G p v
    | none => es.find? (·.key.isStr z) = none
  | [], [], _ => ⟨rfl, rfl⟩
  | q :: qs, e :: es, h => by
    obtain ⟨h1, h2⟩ := Bool.and_eq_true_iff.mp (show ((match e.key with
      | .str x _ => decide (x = q.1)
      | _ => false) && (repB F.K q.2 e.val && tabEs F.K qs es)) = true from h)
    obtain ⟨h2, h3⟩ := Bool.and_eq_true_iff.mp h2
    obtain ⟨i1, i2⟩ := tab_find (z := z) h3
    split at h1
    · rename_i x t ek
      have ex : x = q.1 := of_decide_eq_true h1
      obtain ⟨v, r, g⟩ := repB_ok h2
      refine ⟨?_, ?_⟩
      · rw [List.any_cons, i1, Bool.or_false]
        show (match e.key with
          | .ref _ => true
          | _ => false) = false
        rw [ek]
      · by_cases c : z = q.1
        · have e1 : List.lookup z (q :: qs) = some q.2 := by
            show (match z == q.1 with
              | true => some q.2
              | false => List.lookup z qs) = some q.2
            rw [c, beq_self_eq_true]
          rw [e1]
          refine ⟨e, v, ?_, r, g⟩
          have : e.key.isStr z = true := by
            rw [ek, c, ← ex]
            simp [Value.isStr]
          rw [List.find?_cons, this]
        · have e1 : List.lookup z (q :: qs) = List.lookup z qs := by
            show (match z == q.1 with
              | true => some q.2
              | false => List.lookup z qs) = List.lookup z qs
            rw [beq_eq_false_iff_ne.mpr c]
          have e2 : e.key.isStr z = false := by
            rw [ek]
            simp [Value.isStr]
            intro y
            exact c (by rw [← y, ex])
          rw [e1, List.find?_cons, e2]
          exact i2
    · cases h1
  | [], _ :: _, h => by cases h
  | _ :: _, [], h => by cases h
theorem tab_get {a : Addr} {kvs : List (Str × PV)} (T : TabOk F a kvs) (z : Str) : match kvs.lookup z with
    | some p => ∃ u v, PySem.W.nsIn F.K a z = some (some u) ∧ RelV v u ∧ ∀ G, Rep F G p v
    | none => PySem.W.nsIn F.K a z = some none := by
  have h := T.vals
  unfold tabB at h
  split at h
  · rename_i oc dd es n sl q
    obtain ⟨i1, i2⟩ := tab_find (z := z) h
    unfold PySem.W.nsIn
    rw [q]
    cases c : kvs.lookup z with
    | none =>
      rw [c] at i2
      dsimp only at i2 ⊢
      rw [i2]
      dsimp only
      rw [i1]
      rfl
    | some p =>
      rw [c] at i2
      obtain ⟨e, v, h1, h2, h3⟩ := i2
      dsimp only
      rw [h1]
      exact ⟨_, v, rfl, h2, h3⟩
  · cases h
def pInT (kvs : List (Str × PV)) : PV → Option PV
  | .str z => some (.bl (kvs.lookup z).isSome)
  | _ => none
def pGetT (kvs : List (Str × PV)) : PV → Option PV
  | .str z => kvs.lookup z
  | _ => none
/-- x in TABLE -/
theorem pp_inT {x : Str} {p2 : Pos} {d : DE} {k : Addr} {kvs : List (Str × PV)} (hK : F.K = X.K) (hw : F.w = X.w) (T : TabOk F k kvs) (hm : X.mg x = some (.ref k)) (hg : Gl X x) (h : PE X a (tE F io W d)) (hd : (x == ("__debug__" : Str)) = false := by decide) :
    PE X (.Compare a [.In] [.Name x p2] pos) (tE F io W (dUn (pInT kvs) d)) := by
  obtain ⟨es, n, D⟩ := T.kd
  refine (pe_cmpR (op_in_kd (X := X) (d := k) (es := es) (n := n) (by rw [← hK, ← hw]; exact D)) h (pe_glob (v := .ref k) hg hm rfl hd) rfl).imp fun σ H Q ⟨G, Fr, ρ, S, q⟩ => ?_
  refine tD.step S q fun v H1 G1 ρ1 x e1 S1 r1 q1 => ?_
  obtain ⟨z, hz, kk⟩ := Post.ofO (γ := Unit) q1 S1
  cases r1 <;> first | (exfalso; cases hz; done) | skip
  case str y =>
    cases hz
    have g := tab_get T y
    cases c : kvs.lookup y with
    | none =>
      rw [c] at g
      refine ⟨y, none, rfl, rfl, by rw [← hK]; exact g, ?_⟩
      rw [c] at kk
      exact kk _ G1 H1 (Grow.refl S1.sub) (.bl _)
    | some p =>
      rw [c] at g
      obtain ⟨u, v, h1, h2, h3⟩ := g
      refine ⟨y, some u, rfl, rfl, by rw [← hK]; exact h1, ?_⟩
      rw [c] at kk
      exact kk _ G1 H1 (Grow.refl S1.sub) (.bl _)
def dGetT (kvs : List (Str × PV)) (d : DE) : DE := dUn (pGetT kvs) d
theorem pt_inT {x : Str} {p2 : Pos} {d : DE} {k : Addr} {kvs : List (Str × PV)} (hK : F.K = X.K) (hw : F.w = X.w) (T : TabOk F k kvs) (hm : X.mg x = some (.ref k)) (hg : Gl X x) (h : PE X a (tE F io W d)) (hd : (x == ("__debug__" : Str)) = false := by decide) :
    PT X (.Compare a [.In] [.Name x p2] pos) (tT F io W (dAsB (dUn (pInT kvs) d))) := by
  obtain ⟨es, n, D⟩ := T.kd
  refine (pt_cmpR (op_in_kd (X := X) (d := k) (es := es) (n := n) (by rw [← hK, ← hw]; exact D)) h (pe_glob (v := .ref k) hg hm rfl hd) rfl).imp fun σ H Q ⟨G, Fr, ρ, S, q⟩ => ?_
  have q : Post RB F io W Fr G σ Q (((d ρ).bind fun x ρ => ofO (pInT kvs x) ρ).bind fun x ρ => ofO (asB x) ρ) := q
  have eb : ((d ρ).bind fun x ρ => ofO (pInT kvs x) ρ).bind (fun x ρ => ofO (asB x) ρ) = (d ρ).bind fun x ρ => (ofO (pInT kvs x) ρ).bind fun x ρ => ofO (asB x) ρ := by cases d ρ <;> rfl
  rw [eb] at q
  refine tD.step S q fun v H1 G1 ρ1 x e1 S1 r1 q1 => ?_
  cases r1 <;> first | exact q1.elim | skip
  case str y =>
    have g := tab_get T y
    have q1 : ∀ v G' H', Same G1 G' → StOk F io G' Fr H' σ ρ1 → (kvs.lookup y).isSome = v → Q v H' := q1
    cases c : kvs.lookup y with
    | none =>
      rw [c] at g q1
      exact ⟨y, none, rfl, rfl, by rw [← hK]; exact g, _, rfl, q1 _ G1 H1 (Same.refl _) S1 rfl⟩
    | some p =>
      rw [c] at g q1
      obtain ⟨u, v, h1, h2, h3⟩ := g
      exact ⟨y, some u, rfl, rfl, by rw [← hK]; exact h1, _, rfl, q1 _ G1 H1 (Same.refl _) S1 rfl⟩
/-- TABLE[x] -/
theorem pp_getT {x : Str} {p2 : Pos} {d : DE} {k : Addr} {kvs : List (Str × PV)} (hK : F.K = X.K) (hw : F.w = X.w) (T : TabOk F k kvs) (hm : X.mg x = some (.ref k)) (hg : Gl X x) (h : PE X a (tE F io W d)) (hns : NoSl a) (hd : (x == ("__debug__" : Str)) = false := by decide) :
    PE X (.Subscript (.Name x p2) a pos) (tE F io W (dGetT kvs d)) := by
  obtain ⟨es, n, D⟩ := T.kd
  have D : KDict X.K X.w k es n := by rw [← hK, ← hw]; exact D
  have hb : PE X (.Name x p2) (tC (.ref k)) := pe_glob (v := .ref k) hg hm rfl hd
  refine ⟨fun pins s σ H Q I ⟨G, Fr, ρ, S, q⟩ => ?_⟩
  refine subD_of PySem.F.slot_dict_getitem.lookup hns (thn (hb.run pins s σ H (fun v H1 => v = .ref k ∧ H1 = H) I ⟨rfl, rfl⟩) fun u s1 ⟨x, H1, I1, rx, ex, eH⟩ => ?_)
  subst ex
  subst eH
  obtain rfl : u = Value.ref k := rx
  refine thn (h.run pins s1 σ H1 (fun v H2 => ∃ G1 ρ1 x, StOk F io G1 Fr H2 σ ρ1 ∧ Rep F G1 x v ∧ Post (Rep F) F io W Fr G1 σ Q (ofO (pGetT kvs x) ρ1)) I1 (tD.step S q fun v H2 G1 ρ1 x e1 S1 r1 q1 => ⟨G1, ρ1, x, S1, r1, q1⟩)) fun iv s2 ⟨y, H2, I2, ry, G1, ρ1, x, S1, r1, q1⟩ => ?_
  obtain ⟨z, hz, kk⟩ := Post.ofO (γ := Unit) q1 S1
  refine ⟨kd_type D I2, ?_⟩
  cases r1 <;> first | (exfalso; cases hz; done) | skip
  case str y =>
    have g := tab_get T y
    have hz : kvs.lookup y = some z := hz
    rw [hz] at g
    obtain ⟨u, v, h1, h2, h3⟩ := g
    exact op_item_kd D pins s2 σ H2 (.ref k) (.str y) (.ref k) iv Q I2 rfl ry ⟨y, u, v, rfl, rfl, by rw [← hK]; exact h1, h2, kk _ G1 H2 (Grow.refl S1.sub) (h3 _)⟩

/-! ### errors -/
theorem pmk_own0 {x : Str} {p : Pos} {C : Addr} {bmB : List Value} {B newId initId : String} (FB : ExcBaseFacts B newId initId bmB) (q : PySem.W.excIn X.K C bmB newId = true) (gC : X.mg x = some (.ref C)) (kC : PySem.W.keepIn X.K (.ref C) = true) (r : Raises X (.ref C)) (hg : Gl X x)
    (hdb : (x == ("__debug__" : Str)) = false := by decide) : PMk X (.Call (.Name x p) [] [] pos) (fun _ H Q => Q (.ref C) none H) := by
  intro pins s σ H Q I h
  refine wpAny_Call_Name_kw (ld_glob I hg gC ?_ hdb)
  refine PySem.W.callWith_K0 I.kIn kC ?_
  obtain ⟨bm, N, nm, qn, bs, hdct, sn, sub, ab, col, dd, k0, k1, k2, k3, k5, mN, hC, hN, hni, T⟩ := exc_obj I.kIn q
  obtain ⟨hp1, g1, d1, tk1, os1⟩ := s
  exact wpAny_call_exc_subT FB T hC hN hni (fun h' e hm => mk_of I hm r h (I.hok.gone hm.new)) (Nat.zero_le _)
/-- facts of an own class of error, without an __init__ of its own -/
structure ExcC (X : Cx) (x : Str) (C : Addr) : Prop where
  mg : X.mg x = some (.ref C)
  ok : PySem.W.excIn X.K C He.veBase "ValueError.__new__" = true
  kp : PySem.W.keepIn X.K (.ref C) = true
  rs : Raises X (.ref C)
def sRaise (c : Nat) : DS := fun ρ => .exc c [] ρ
theorem st_raise {x : Str} {p pos2 : Pos} {c : Nat} (hc : X.calm = true) (tk : Takes X W) (E : ExcC X x (F.cls c)) (hg : Gl X x) (hdb : (x == ("__debug__" : Str)) = false := by decide) : PS X (.Raise (some (.Call (.Name x p) [] [] pos2)) none pos) (tS F io W (sRaise c)) :=
  (ps_raise hc tk (pmk_own0 PySem.F.excBase_ValueError E.ok E.mg E.kp E.rs hg hdb)).imp fun D σ H ⟨G, Fr, ρ, S, q⟩ => q none σ G H (Same.refl _) S rfl

/-! ### lists of one's own -/
def sNewL (i : Nat) (d : DD (List PV)) : DS := fun ρ => (d ρ).toOut fun xs ρ => if xs.length ≤ 1000 then .nx (ρ.set i (some (.own (.lst xs)))) else .stuck
theorem st_newL {i : Nat} {x : Str} {d : DD (List PV)} {pos' p2 : Pos} (hN : X.N.Nodup) (hi : X.N[i]? = some x) (hx : Loc X.env.scope x) (h : PA X es (tA F io W d)) (hs : swapsWith (.List es p2) (some (.Name x pos')) pos.line X.env = pure false := by rfl)
    (hf : X.fn x = true ∨ X.env.scope.names.lookup x = some .local := by first | exact .inl rfl | exact .inr rfl | assumption) : PS X (.Assign [.Name x pos'] (.List es p2) pos) (tS F io W (sNewL i d)) := by
  refine (ps_set hN hi hx (pe_lst h) hs hf).imp fun D σ H ⟨G, Fr, ρ, S, q⟩ => ?_
  refine tD.stepS S q fun vs H1 G1 ρ1 xs e1 S1 r1 q1 => ?_
  by_cases l : xs.length ≤ 1000
  · rw [if_pos l] at q1
    refine ⟨by rw [← r1.length]; exact line1000 l, fun p n => ?_⟩
    exact PostS.next q1 (S1.new_own n (.lst upd_same r1))
  · rw [if_neg l] at q1
    exact q1.elim
/-- what a slot's own object holds is changed -/
theorem StOk.mut_own {G Fr H : Hp} {σ : L2.St} {ρ : Rho} {i : Nat} {c c' : PV} {p : Addr} {o : HO} (S : StOk F io G Fr H σ ρ) (e : ρ[i]? = some (some (.own c))) (es : σ[i]? = some (some (.ref p))) (r : Own F G (upd H p o) p c') : StOk F io G Fr (upd H p o) σ (ρ.set i (some (.own c'))) := by
  obtain ⟨a, h1, h2, h3, h4, h5⟩ := S.own i c e
  rw [es] at h1
  cases h1
  have k : ∀ b u, b ≠ p → H b = some u → upd H p o b = some u := fun b u n h => by rw [upd_ne n]; exact h
  refine ⟨fun b u h => k b u (ne_of_none h h2) (S.sub b u h), fun b u h => k b u (ne_of_none h h3) (S.fsub b u h), S.dis, by rw [List.length_set]; exact S.len, fun j q ej => ?_, fun j d ej => ?_, fun j l d d' b ej el s1 s2 => ?_, fun b eb => ?_, fun j d ej => ?_, fun j l d d' ej el => ?_⟩
  · rcases slot_set ej with ⟨_, z⟩ | ⟨n, z⟩
    · cases z
    · exact S.val j q z
  · rcases slot_set ej with ⟨rfl, z⟩ | ⟨n, z⟩
    · injection z with z
      subst z
      exact ⟨p, es, h2, h3, r, h5⟩
    · obtain ⟨b, g1, g2, g3, g4, g5⟩ := S.own j d z
      refine ⟨b, g1, g2, g3, g4.same (Same.refl _) fun u hu => k b u (fun w => ?_) hu, g5⟩
      subst w
      exact n (S.sep i j c d b e z es g1)
  · have old : ∀ j d, (ρ.set i (some (.own c')))[j]? = some (some (SV.own d)) → ∃ d', ρ[j]? = some (some (SV.own d')) := fun j d h => by
      rcases slot_set h with ⟨rfl, _⟩ | ⟨_, z⟩
      · exact ⟨c, e⟩
      · exact ⟨d, z⟩
    obtain ⟨d1, z1⟩ := old j d ej
    obtain ⟨d2, z2⟩ := old l d' el
    exact S.sep j l d1 d2 b z1 z2 s1 s2
  · obtain ⟨g1, g2, u, g3⟩ := S.iot b eb
    exact ⟨g1, g2, u, k b u (fun w => h5 (by rw [← w]; exact eb)) g3⟩
  · rcases slot_set ej with ⟨_, z⟩ | ⟨n, z⟩
    · cases z
    · obtain ⟨b, g1, g2, g3⟩ := S.inp j d z
      exact ⟨b, g1, g2, g3.same (Same.refl _) fun u hu => k b u (fun w => h5 (by rw [← w]; exact g1)) hu⟩
  · rcases slot_set ej with ⟨_, z⟩ | ⟨n, z⟩
    · cases z
    · rcases slot_set el with ⟨_, z2⟩ | ⟨n2, z2⟩
      · cases z2
      · exact S.one j l d d' z z2
/-- what was handed in is changed -/
theorem StOk.mut_inp {G Fr H : Hp} {σ : L2.St} {ρ : Rho} {i : Nat} {c c' : PV} {p : Addr} {o : HO} (S : StOk F io G Fr H σ ρ) (e : ρ[i]? = some (some (.inp c))) (es : σ[i]? = some (some (.ref p))) (r : Own F G (upd H p o) p c') : StOk F io G Fr (upd H p o) σ (ρ.set i (some (.inp c'))) := by
  obtain ⟨a, h1, h2, h3⟩ := S.inp i c e
  rw [es] at h2
  cases h2
  obtain ⟨n1, n2, o1, n3⟩ := S.iot p h1
  have k : ∀ b u, b ≠ p → H b = some u → upd H p o b = some u := fun b u n h => by rw [upd_ne n]; exact h
  refine ⟨fun b u h => k b u (ne_of_none h n1) (S.sub b u h), fun b u h => k b u (ne_of_none h n2) (S.fsub b u h), S.dis, by rw [List.length_set]; exact S.len, fun j q ej => ?_, fun j d ej => ?_, fun j l d d' b ej el s1 s2 => ?_, fun b eb => ?_, fun j d ej => ?_, fun j l d d' ej el => ?_⟩
  · rcases slot_set ej with ⟨_, z⟩ | ⟨n, z⟩
    · cases z
    · exact S.val j q z
  · rcases slot_set ej with ⟨_, z⟩ | ⟨n, z⟩
    · cases z
    · obtain ⟨b, g1, g2, g3, g4, g5⟩ := S.own j d z
      exact ⟨b, g1, g2, g3, g4.same (Same.refl _) fun u hu => k b u (fun w => g5 (by rw [w]; exact h1)) hu, g5⟩
  · rcases slot_set ej with ⟨_, z⟩ | ⟨n, z⟩
    · cases z
    · rcases slot_set el with ⟨_, z2⟩ | ⟨n2, z2⟩
      · cases z2
      · exact S.sep j l d d' b z z2 s1 s2
  · obtain ⟨g1, g2, u, g3⟩ := S.iot b eb
    refine ⟨g1, g2, ?_⟩
    rw [h1] at eb
    cases eb
    exact ⟨o, upd_same⟩
  · rcases slot_set ej with ⟨rfl, z⟩ | ⟨n, z⟩
    · injection z with z
      subst z
      exact ⟨p, h1, es, r⟩
    · exact absurd (S.one i j c d e z) n
  · have old : ∀ j d, (ρ.set i (some (.inp c')))[j]? = some (some (SV.inp d)) → ∃ d', ρ[j]? = some (some (SV.inp d')) := fun j d h => by
      rcases slot_set h with ⟨rfl, _⟩ | ⟨_, z⟩
      · exact ⟨c, e⟩
      · exact ⟨d, z⟩
    obtain ⟨d1, z1⟩ := old j d ej
    obtain ⟨d2, z2⟩ := old l d' el
    exact S.one j l d1 d2 z1 z2
/-- an object that may be changed at a slot -/
def slotM (ρ : Rho) (i : Nat) : Option PV := match ρ[i]? with
  | some (some (.own c)) => some c
  | some (some (.inp c)) => some c
  | _ => none
def putM (ρ : Rho) (i : Nat) (c : PV) : Rho := match ρ[i]? with
  | some (some (.own _)) => ρ.set i (some (.own c))
  | some (some (.inp _)) => ρ.set i (some (.inp c))
  | _ => ρ
theorem slotM_at {G Fr H : Hp} {σ : L2.St} {ρ : Rho} {i : Nat} {c : PV} (S : StOk F io G Fr H σ ρ) (e : slotM ρ i = some c) : ∃ p, σ[i]? = some (some (V.ref p)) ∧ G p = none ∧ Fr p = none ∧ Own F G H p c ∧
    ∀ o c', Own F G (upd H p o) p c' → StOk F io G Fr (upd H p o) σ (putM ρ i c') := by
  unfold slotM at e
  unfold putM
  cases q : ρ[i]? with
  | none => rw [q] at e; cases e
  | some x =>
    rw [q] at e
    cases x with
    | none => cases e
    | some sv =>
      cases sv with
      | val p => cases e
      | own d =>
        cases e
        obtain ⟨a, h1, h2, h3, h4, h5⟩ := S.own i _ q
        exact ⟨a, h1, h2, h3, h4, fun o c' r => S.mut_own q h1 r⟩
      | inp d =>
        cases e
        obtain ⟨a, h1, h2, h3⟩ := S.inp i _ q
        obtain ⟨n1, n2, _⟩ := S.iot a h1
        exact ⟨a, h2, n1, n2, h3, fun o c' r => S.mut_inp q h2 r⟩
/-- x.append(e) -/
def sApp (i : Nat) (d : DE) : DS := fun ρ => (d ρ).toOut fun y ρ => match slotM ρ i with
  | some (.lst xs) => if xs.length < LIM then .nx (putM ρ i (.lst (xs ++ [y]))) else .stuck
  | _ => .stuck
/-- the slot's object is a list ahead of it -/
def isLstM (ρ : Rho) (i : Nat) : Bool := match slotM ρ i with
  | some (.lst _) => true
  | _ => false
def sApp' (i : Nat) (d : DE) : DS := fun ρ => if isLstM ρ i = true then sApp i d ρ else .stuck
theorem own_lst {G H : Hp} {p : Addr} {xs : List PV} (h : Own F G H p (.lst xs)) : ∃ vs, H p = some (.lst vs) ∧ Reps F G xs vs := by
  cases h with
  | lst h r => exact ⟨_, h, r⟩
theorem lstM_at {ρ : Rho} {i : Nat} (h : isLstM ρ i = true) : ∃ xs, slotM ρ i = some (.lst xs) := by
  unfold isLstM at h
  split at h
  · rename_i xs q
    exact ⟨xs, q⟩
  · cases h
theorem st_app {i : Nat} {x : Str} {d : DE} {p1 apos cpos : Pos} (hv : PE X (.Name x p1) (tVar i)) (h : PE X e (tE F io W d)) (hs : swapsWith (.Call (.Attribute (.Name x p1) "append" apos) [e] [] cpos) none pos.line X.env = pure false := by rfl)
    (hbase : attributeBase (.Name x p1) "append" X.env (eval (.Name x p1) X.env) = eval (.Name x p1) X.env := by rfl)
    (hfew : ((backTo cpos (starEach [e] X.env)).all (fun x => !x.1) && (backToKw cpos (keywordEach [] X.env)).all (fun x => x.1.isSome)
      && decide ([e].length + ([] : List Keyword).length + (if ([] : List Keyword).isEmpty then 0 else 1) < 30)) = true := by rfl)
    (hline : (apos.endLine == cpos.line) = true := by rfl) (hst : starEach [e] X.env = (false, eval e X.env) :: starEach [] X.env := by rfl) (hplain : (backTo cpos (starEach [] X.env)).any (·.1) = false := by rfl) :
    PS X (.Expr (.Call (.Attribute (.Name x p1) "append" apos) [e] [] cpos) pos) (tS F io W (sApp' i d)) := by
  refine (ps_expr (pe_bm PySem.F.plainAttrs_list PySem.F.slot_list_append PySem.F.type_list_append mt_append hv (pa_cons h pa_nil hst) hbase hfew hline hst hplain) hs).imp fun D σ H ⟨G, Fr, ρ, S, q⟩ => ?_
  unfold sApp' at q
  by_cases l : isLstM ρ i = true
  · rw [if_pos l] at q
    obtain ⟨xs, em⟩ := lstM_at l
    obtain ⟨p, h1, h2, h3, h4, _⟩ := slotM_at S em
    obtain ⟨vs, g1, g2⟩ := own_lst h4
    refine ⟨.ref p, h1, .inl ⟨rfl, vs, .of g1⟩, ?_⟩
    unfold sApp at q
    refine tD.stepS S q fun u H1 G1 ρ1 y e1 S1 r1 q1 => ?_
    cases em1 : slotM ρ1 i with
    | none => rw [em1] at q1; exact q1.elim
    | some c =>
      rw [em1] at q1
      cases c <;> first | exact q1.elim | skip
      case lst ys =>
        obtain ⟨p', k1, k2, k3, k4, k5⟩ := slotM_at S1 em1
        rw [h1] at k1
        cases k1
        obtain ⟨vs', g1', g2'⟩ := own_lst k4
        have q1 : PostS F io W Fr G1 D (if ys.length < LIM then .nx (putM ρ1 i (.lst (ys ++ [y]))) else .stuck) := q1
        by_cases ll : ys.length < LIM
        · rw [if_pos ll] at q1
          refine ⟨p, vs', u, rfl, rfl, g1', ?_, ?_⟩
          · rw [← g2'.length]
            exact Nat.lt_trans ll (by decide)
          · exact PostS.next q1 (k5 _ _ (.lst upd_same (g2'.append (.cons r1 .nil))))
        · rw [if_neg ll] at q1
          exact q1.elim
  · rw [if_neg l] at q
    exact q.elim
/-- x[i] = e of a list of one's own -/
def sPut (i : Nat) (d di : DE) : DS := fun ρ => (d ρ).toOut fun y ρ => if isLstM ρ i = true then (di ρ).toOut fun k ρ => (match slotM ρ i, k with
    | some (.lst xs), .int j => (match ixN xs.length j with
      | some m => .nx (putM ρ i (.lst (xs.set m y)))
      | none => .stuck)
    | _, _ => .stuck) else .stuck
theorem st_put {i : Nat} {x : Str} {d di : DE} {p1 p2 : Pos} {ix : Expr} (hv : PE X (.Name x p1) (tVar i)) (h : PE X e (tE F io W d)) (hi : PE X ix (tE F io W di)) (hs : swapsWithSole [.Subscript (.Name x p1) ix p2] e pos.line X.env = pure false := by rfl) (hw : swappedStores [.Subscript (.Name x p1) ix p2] e X.env = pure none := by rfl)
    (h1 : (assignEach [.Subscript (.Name x p1) ix p2] X.env).map (·.2) = [assign (.Subscript (.Name x p1) ix p2) X.env] := by rfl)
    (ha : ∀ v, assign (.Subscript (.Name x p1) ix p2) X.env v = (do
      let ov ← holding [v] (eval (.Name x p1) X.env)
      let iv ← holding [v, ov] (eval ix X.env)
      standAt p2
      holding [v, ov, iv] (setItem ov iv v)
      release [v, ov, iv] []) := by intro _; rfl) : PS X (.Assign [.Subscript (.Name x p1) ix p2] e pos) (tS F io W (sPut i d di)) := by
  refine (ps_asg h (pg_sub hv hi set_list ha) hs hw h1).imp fun D σ H ⟨G, Fr, ρ, S, q⟩ => ?_
  refine tD.stepS S q fun u H1 G1 ρ1 y e1 S1 r1 q1 => ?_
  by_cases l : isLstM ρ1 i = true
  · rw [if_pos l] at q1
    obtain ⟨xs, em⟩ := lstM_at l
    obtain ⟨p, h1, h2, h3, h4, _⟩ := slotM_at S1 em
    refine ⟨.ref p, h1, ?_⟩
    refine tD.stepS S1 q1 fun iv H2 G2 ρ2 k e2 S2 r2 q2 => ?_
    cases em1 : slotM ρ2 i with
    | none => rw [em1] at q2; exact q2.elim
    | some c =>
      rw [em1] at q2
      cases c <;> first | exact q2.elim | skip
      case lst ys =>
        cases r2 <;> first | exact q2.elim | skip
        case int j =>
          have q2 : PostS F io W Fr G2 D (match ixN ys.length j with
            | some m => .nx (putM ρ2 i (.lst (ys.set m y)))
            | none => .stuck) := q2
          cases ej : ixN ys.length j with
          | none => rw [ej] at q2; exact q2.elim
          | some m =>
            rw [ej] at q2
            obtain ⟨p', k1, k2, k3, k4, k5⟩ := slotM_at S2 em1
            rw [h1] at k1
            cases k1
            obtain ⟨vs, g1, g2⟩ := own_lst k4
            exact ⟨p, vs, j, m, rfl, rfl, g1, by rw [← g2.length]; exact ej, PostS.next q2 (k5 _ _ (.lst upd_same (g2.set (r1.same e2) m)))⟩
  · rw [if_neg l] at q1
    exact q1.elim
/-- x[e] of a list of one's own: read -/
def dIxM (i : Nat) (di : DE) : DE := fun ρ => if isLstM ρ i = true then (di ρ).bind fun k ρ => (match slotM ρ i with
    | some (.lst xs) => ofO (pIx (.lst xs) k) ρ
    | _ => .stuck) else .stuck
theorem pp_ixM {i : Nat} {x : Str} {di : DE} {p1 : Pos} {ix : Expr} (hK : F.K = X.K) (hv : PE X (.Name x p1) (tVar i)) (hi : PE X ix (tE F io W di)) (hs : PlainIx ix := by intro _ _; rfl) : PE X (.Subscript (.Name x p1) ix pos) (tE F io W (dIxM i di)) := by
  refine (pe_ix ix_list hv hi hs).imp fun σ H Q ⟨G, Fr, ρ, S, q⟩ => ?_
  unfold dIxM at q
  by_cases l : isLstM ρ i = true
  · rw [if_pos l] at q
    obtain ⟨xs, em⟩ := lstM_at l
    obtain ⟨p, h1, h2, h3, h4, _⟩ := slotM_at S em
    refine ⟨.ref p, h1, ?_⟩
    refine tD.step S q fun iv H2 G2 ρ2 k e2 S2 r2 q2 => ?_
    cases em1 : slotM ρ2 i with
    | none => rw [em1] at q2; exact q2.elim
    | some c =>
      rw [em1] at q2
      cases c <;> first | exact q2.elim | skip
      case lst ys =>
        obtain ⟨z, hz, kk⟩ := Post.ofO (γ := Unit) q2 S2
        obtain ⟨p', k1, k2, k3, k4, k5⟩ := slotM_at S2 em1
        rw [h1] at k1
        cases k1
        obtain ⟨vs, g1, g2⟩ := own_lst k4
        cases r2 <;> first | (exfalso; cases hz; done) | skip
        case int j =>
          obtain ⟨v, h1, h2⟩ := atI_rep g2 hz
          exact ⟨_, _, _, _, rfl, rfl, .of g1, h1, kk _ G2 H2 (Grow.refl S2.sub) h2⟩
  · rw [if_neg l] at q
    exact q.elim
/-- an object of one's own is handed on as a value: from now on it stands still -/
def dFz (i : Nat) : DE := fun ρ => match ρ[i]? with
  | some (some (.own c)) => .ok c (ρ.set i (some (.val c)))
  | _ => .stuck
theorem pp_fz {i : Nat} {x : Str} (hv : PE X (.Name x pos) (tVar i)) : PE X (.Name x pos) (tE F io W (dFz i)) := by
  refine hv.imp fun σ H Q ⟨G, Fr, ρ, S, q⟩ => ?_
  unfold dFz at q
  cases e : ρ[i]? with
  | none => rw [e] at q; exact q.elim
  | some o =>
    cases o with
    | none => rw [e] at q; exact q.elim
    | some sv =>
      cases sv with
      | val => rw [e] at q; exact q.elim
      | inp => rw [e] at q; exact q.elim
      | own c =>
        rw [e] at q
        obtain ⟨a, h1, h2, h3, h4, h5⟩ := S.own i c e
        obtain ⟨o, ho⟩ := h4.there
        have sD : Same G (upd G a o) := same_upd h2
        refine ⟨.ref a, h1, q (.ref a) (upd G a o) H sD ?_ (h4.frozen ho sD)⟩
        refine ⟨fun b u h => ?_, S.fsub, fun b u h => ?_, by rw [List.length_set]; exact S.len, fun j p ej => ?_, fun j d ej => ?_, fun j l d d' b ej el s1 s2 => ?_, fun b eb => ?_, fun j d ej => ?_, fun j l d d' ej el => ?_⟩
        · by_cases z : b = a
          · subst z
            rw [upd_same] at h
            cases h
            exact ho
          · rw [upd_ne z] at h
            exact S.sub b u h
        · by_cases z : b = a
          · subst z
            exact h3
          · rw [upd_ne z] at h
            exact S.dis b u h
        · rcases slot_set ej with ⟨rfl, z⟩ | ⟨n, z⟩
          · injection z with z
            subst z
            exact ⟨.ref a, h1, h4.frozen ho sD⟩
          · obtain ⟨v, g1, g2⟩ := S.val j p z
            exact ⟨v, g1, g2.same sD⟩
        · rcases slot_set ej with ⟨rfl, z⟩ | ⟨n, z⟩
          · cases z
          · obtain ⟨b, g1, g2, g3, g4, g5⟩ := S.own j d z
            refine ⟨b, g1, ?_, g3, g4.same sD fun u hu => hu, g5⟩
            rw [upd_ne (fun w => n (S.sep i j c d a e z h1 (by rw [← w]; exact g1)))]
            exact g2
        · rcases slot_set ej with ⟨rfl, z⟩ | ⟨n, z⟩
          · cases z
          · rcases slot_set el with ⟨rfl, z2⟩ | ⟨n2, z2⟩
            · cases z2
            · exact S.sep j l d d' b z z2 s1 s2
        · obtain ⟨g1, g2, g3⟩ := S.iot b eb
          refine ⟨?_, g2, g3⟩
          rw [upd_ne (fun w => h5 (by rw [← w]; exact eb))]
          exact g1
        · rcases slot_set ej with ⟨rfl, z⟩ | ⟨n, z⟩
          · cases z
          · obtain ⟨b, g1, g2, g3⟩ := S.inp j d z
            exact ⟨b, g1, g2, g3.same sD fun u hu => hu⟩
        · rcases slot_set ej with ⟨rfl, z⟩ | ⟨n, z⟩
          · cases z
          · rcases slot_set el with ⟨rfl, z2⟩ | ⟨n2, z2⟩
            · cases z2
            · exact S.one j l d d' z z2
end
end Pl

set_option maxHeartbeats 4000000
/-! P7: defs that change what is handed in; defs that hand back a new list; try. -/
namespace Pl
open PySem PySem.Spec PyProof.Rows L2

inductive FRI where
  | ok (p : PV) (c : PV)
  | stuck
/-- the heap behind a call that may change p -/
structure GrowI (p : Addr) (G H G' H' : Hp) : Prop where
  all : ∀ a o, a ≠ p → H a = some o → H' a = some o
  gle : Same G G'
  sub : Same G' H'
  new : ∀ a o, G' a = some o → G a = none → H a = none
/-- a def of n parameters that may change the object at the first one does what φ says -/
def spI (F : Fx) (n : Nat) (φ : PV → List PV → FRI) : Sp := fun vs H Q _ => vs.length = n ∧ ∃ G p c ps vr, vs = .ref p :: vr ∧ Same G H ∧ G p = none ∧ Own F G H p c ∧ Reps F G ps vr ∧ match φ c ps with
  | .ok r c' => ∀ v G' H', GrowI p G H G' H' → Own F G' H' p c' → Rep F G' r v → Q v H'
  | .stuck => False
/-- a def that hands back a new list -/
def spO (F : Fx) (n : Nat) (φ : List PV → Option PV) : Sp := fun vs H Q _ => vs.length = n ∧ ∃ G ps, Same G H ∧ Reps F G ps vs ∧ match φ ps with
  | some c => ∀ p G' H', Grow G H G' H' → H p = none → G' p = none → Own F G' H' p c → Q (.ref p) H'
  | none => False
section
variable {F : Fx} {io : Option Addr} {W : WX} {Fr G G' H H' : Hp} {σ : L2.St} {ρ : Rho}
theorem StOk.thru {i : Nat} {c c' : PV} {p : Addr} (S : StOk F io G Fr H σ ρ) (e : slotM ρ i = some c) (es : σ[i]? = some (some (V.ref p))) (g : GrowI p G H G' H') (r : Own F G' H' p c') : StOk F io G' Fr H' σ (putM ρ i c') := by
  have there : ∃ o, H p = some o := by
    obtain ⟨q, h1, _, _, h4, _⟩ := slotM_at S e
    rw [es] at h1
    cases h1
    exact h4.there
  have z0 : ∀ a, G a = none → (∃ o, H a = some o) → G' a = none := fun a h ⟨o, ho⟩ => by
    cases q : G' a with
    | none => rfl
    | some u =>
      rw [g.new a u q h] at ho
      cases ho
  have nFp : Fr p = none := by
    obtain ⟨q, h1, _, h3, _, _⟩ := slotM_at S e
    rw [es] at h1
    cases h1
    exact h3
  have fs : Same Fr H' := fun b u h => g.all b u (ne_of_none h nFp) (S.fsub b u h)
  have ds : ∀ a o, G' a = some o → Fr a = none := fun a o h => by
    cases q : G a with
    | some u => exact S.dis a u q
    | none => exact S.fsub.free (g.new a o h q)
  unfold slotM at e
  unfold putM
  cases q : ρ[i]? with
  | none => rw [q] at e; cases e
  | some x =>
    rw [q] at e
    cases x with
    | none => cases e
    | some sv =>
      cases sv with
      | val d => cases e
      | own d =>
        cases e
        obtain ⟨a, h1, h2, h3, h4, h5⟩ := S.own i _ q
        rw [es] at h1
        cases h1
        refine ⟨g.sub, fs, ds, by rw [List.length_set]; exact S.len, fun j x ej => ?_, fun j d ej => ?_, fun j l d d' b ej el s1 s2 => ?_, fun b eb => ?_, fun j d ej => ?_, fun j l d d' ej el => ?_⟩
        · rcases slot_set ej with ⟨_, z⟩ | ⟨n, z⟩
          · cases z
          · obtain ⟨v, g1, g2⟩ := S.val j x z
            exact ⟨v, g1, g2.same g.gle⟩
        · rcases slot_set ej with ⟨rfl, z⟩ | ⟨n, z⟩
          · injection z with z
            subst z
            exact ⟨p, es, z0 p h2 there, h3, r, h5⟩
          · obtain ⟨b, g1, g2, g3, g4, g5⟩ := S.own j d z
            refine ⟨b, g1, z0 b g2 g4.there, g3, g4.same g.gle fun u hu => g.all b u (fun w => ?_) hu, g5⟩
            subst w
            exact n (S.sep i j _ d b q z es g1)
        · have old : ∀ j d, (ρ.set i (some (.own c')))[j]? = some (some (SV.own d)) → ∃ d', ρ[j]? = some (some (SV.own d')) := fun j d h => by
            rcases slot_set h with ⟨rfl, _⟩ | ⟨_, z⟩
            · exact ⟨_, q⟩
            · exact ⟨d, z⟩
          obtain ⟨d1, z1⟩ := old j d ej
          obtain ⟨d2, z2⟩ := old l d' el
          exact S.sep j l d1 d2 b z1 z2 s1 s2
        · obtain ⟨g1, g2, u, g3⟩ := S.iot b eb
          exact ⟨z0 b g1 ⟨u, g3⟩, g2, u, g.all b u (fun w => h5 (by rw [← w]; exact eb)) g3⟩
        · rcases slot_set ej with ⟨_, z⟩ | ⟨n, z⟩
          · cases z
          · obtain ⟨b, g1, g2, g3⟩ := S.inp j d z
            exact ⟨b, g1, g2, g3.same g.gle fun u hu => g.all b u (fun w => h5 (by rw [← w]; exact g1)) hu⟩
        · rcases slot_set ej with ⟨_, z⟩ | ⟨n, z⟩
          · cases z
          · rcases slot_set el with ⟨_, z2⟩ | ⟨n2, z2⟩
            · cases z2
            · exact S.one j l d d' z z2
      | inp d =>
        cases e
        obtain ⟨a, h1, h2, h3⟩ := S.inp i _ q
        rw [es] at h2
        cases h2
        obtain ⟨n1, n2, o1, n3⟩ := S.iot p h1
        refine ⟨g.sub, fs, ds, by rw [List.length_set]; exact S.len, fun j x ej => ?_, fun j d ej => ?_, fun j l d d' b ej el s1 s2 => ?_, fun b eb => ?_, fun j d ej => ?_, fun j l d d' ej el => ?_⟩
        · rcases slot_set ej with ⟨_, z⟩ | ⟨n, z⟩
          · cases z
          · obtain ⟨v, g1, g2⟩ := S.val j x z
            exact ⟨v, g1, g2.same g.gle⟩
        · rcases slot_set ej with ⟨_, z⟩ | ⟨n, z⟩
          · cases z
          · obtain ⟨b, g1, g2, g3, g4, g5⟩ := S.own j d z
            exact ⟨b, g1, z0 b g2 g4.there, g3, g4.same g.gle fun u hu => g.all b u (fun w => g5 (by rw [w]; exact h1)) hu, g5⟩
        · rcases slot_set ej with ⟨_, z⟩ | ⟨n, z⟩
          · cases z
          · rcases slot_set el with ⟨_, z2⟩ | ⟨n2, z2⟩
            · cases z2
            · exact S.sep j l d d' b z z2 s1 s2
        · obtain ⟨g1, g2, u, g3⟩ := S.iot b eb
          rw [h1] at eb
          cases eb
          exact ⟨z0 p g1 ⟨u, g3⟩, g2, r.there⟩
        · rcases slot_set ej with ⟨rfl, z⟩ | ⟨n, z⟩
          · injection z with z
            subst z
            exact ⟨p, h1, es, r⟩
          · exact absurd (S.one i j _ d q z) n
        · have old : ∀ j d, (ρ.set i (some (.inp c')))[j]? = some (some (SV.inp d)) → ∃ d', ρ[j]? = some (some (SV.inp d')) := fun j d h => by
            rcases slot_set h with ⟨rfl, _⟩ | ⟨_, z⟩
            · exact ⟨_, q⟩
            · exact ⟨d, z⟩
          obtain ⟨d1, z1⟩ := old j d ej
          obtain ⟨d2, z2⟩ := old l d' el
          exact S.one j l d1 d2 z1 z2
end
section
variable {X : Cx} {F : Fx} {io : Option Addr} {W : WX} {a b e : Expr} {es : List Expr} {pos : Pos}
/-- f(x, ..) where f may change the object at slot i -/
def dCallI (i : Nat) (φ : PV → List PV → FRI) (d : DD (List PV)) : DE := fun ρ => if (slotM ρ i).isSome = true then (d ρ).bind fun xs ρ => (match slotM ρ i with
    | some c => (match φ c xs with
      | .ok r c' => .ok r (putM ρ i c')
      | .stuck => .stuck)
    | none => .stuck) else .stuck
theorem pp_callI {k : Nat} {f : Addr} {fd : FuncData} {ps : List Str} {φ : PV → List PV → FRI} {x : Str} {p p1 : Pos} {i : Nat} {y : Str} {d : DD (List PV)} (n : Nat) (tk : Takes X W) (G : FnOk X.prog X.w X.K X.mg X.base (CX X.prog X.w) k f fd ps (spI F (n + 1) φ)) (hr : Room k X.A) (hm : X.mg x = some (.ref f))
    (hk : PySem.W.keepIn X.K (.ref f) = true) (hb : Binds X.K fd ps []) (hg : Gl X x) (hv : PE X (.Name y p1) (tVar i)) (ha : PA X es (tA F io W d)) [L : LenA d n] (hdb : (x == ("__debug__" : Str)) = false := by decide)
    (he : starEach (.Name y p1 :: es) X.env = (false, eval (.Name y p1) X.env) :: starEach es X.env := by rfl) (hpl : (backTo pos (starEach es X.env)).any (·.1) = false := by rfl) :
    PE X (.Call (.Name x p) (.Name y p1 :: es) [] pos) (tE F io W (dCallI i φ d)) := by
  refine (pe_callS (E := fun σ => WE W σ) G hr hg hm hk hb (fun σ => passAt tk σ) (pa_cons hv ha he) hdb he hpl).imp fun σ H Q ⟨G, Fr, ρ, S, q⟩ => ?_
  unfold dCallI at q
  by_cases hi : (slotM ρ i).isSome = true
  · rw [if_pos hi] at q
    obtain ⟨c0, ec0⟩ := Option.isSome_iff_exists.mp hi
    obtain ⟨p0, h1, _, _, _, _⟩ := slotM_at S ec0
    refine ⟨.ref p0, h1, ?_⟩
    refine ⟨G, Fr, ρ, S, ?_⟩
    cases ed : d ρ with
    | stuck => rw [ed] at q; exact q
    | exc c as ρ1 => rw [ed] at q; exact q
    | ok xs ρ1 =>
      rw [ed] at q
      intro vs G1 H1 e1 S1 r1
      cases em : slotM ρ1 i with
      | none =>
        have q : Post (Rep F) F io W Fr G σ Q (match slotM ρ1 i with
          | some c => (match φ c xs with
            | .ok r c' => .ok r (putM ρ1 i c')
            | .stuck => .stuck)
          | none => .stuck) := q
        rw [em] at q
        exact q.elim
      | some c =>
        have q : Post (Rep F) F io W Fr G σ Q (match slotM ρ1 i with
          | some c => (match φ c xs with
            | .ok r c' => .ok r (putM ρ1 i c')
            | .stuck => .stuck)
          | none => .stuck) := q
        rw [em] at q
        obtain ⟨p1, k1, k2, k3, k4, k5⟩ := slotM_at S1 em
        rw [h1] at k1
        cases k1
        refine ⟨by rw [List.length_cons, ← r1.length]; exact congrArg (· + 1) (L.len _ _ _ ed), G1, p0, c, xs, vs, rfl, S1.sub, k2, k4, r1, ?_⟩
        dsimp only at q
        cases ef : φ c xs with
        | ok r c' =>
          rw [ef] at q
          exact fun v G2 H2 g o r2 => q v G2 H2 (e1.trans g.gle) (S1.thru em h1 g o) r2
        | stuck => rw [ef] at q; exact q
  · rw [if_neg hi] at q
    exact q.elim
def runI (n : Nat) (d : DS) (c : PV) (ps : List PV) : FRI := match d (some (.inp c) :: ps.map (fun p => some (.val p)) ++ List.replicate (n - (ps.length + 1)) none) with
  | .rt p ρ => (match (ρ[(0 : Nat)]? : Option (Option SV)) with
    | some (some (SV.inp c')) => .ok p c'
    | _ => .stuck)
  | .nx ρ => (match (ρ[(0 : Nat)]? : Option (Option SV)) with
    | some (some (SV.inp c')) => .ok .non c'
    | _ => .stuck)
  | _ => .stuck
theorem startI_ok {G H : Hp} {N : List Str} {ps : List PV} {vs : List V} {p : Addr} {c : PV} (s : Same G H) (np : G p = none) (o : Own F G H p c) (r : Reps F G ps vs) :
    StOk F (some p) G (fun a => if (G a).isSome = true ∨ a = p then none else H a) H (L2.start N (.ref p :: vs)) (some (.inp c) :: ps.map (fun p => some (.val p)) ++ List.replicate (N.length - (ps.length + 1)) none) := by
  have no : ∀ (i : Nat) (sv : SV), (some (SV.inp c) :: ps.map (fun p => some (SV.val p)) ++ List.replicate (N.length - (ps.length + 1)) none)[i]? = some (some sv) → (i = 0 ∧ sv = .inp c) ∨ ∃ j p, i = j + 1 ∧ sv = .val p ∧ ps[j]? = some p := fun i sv e => by
    cases i with
    | zero => exact .inl ⟨rfl, (Option.some.inj (Option.some.inj e)).symm⟩
    | succ i =>
      have e : (ps.map (fun p => some (SV.val p)) ++ List.replicate (N.length - (ps.length + 1)) none)[i]? = some (some sv) := e
      by_cases l : i < ps.length
      · rw [List.getElem?_append_left (by simpa using l), List.getElem?_map] at e
        cases q : ps[i]? with
        | none => rw [q] at e; cases e
        | some p => rw [q] at e; cases e; exact .inr ⟨i, p, rfl, rfl, q⟩
      · rw [List.getElem?_append_right (by simpa using l), List.getElem?_replicate] at e
        split at e <;> cases e
  refine ⟨s, fun a u e => ?_, fun a u e => by simp [e], ?_, fun i x e => ?_, fun i d e => ?_, fun i j d d' b e => ?_, fun a e => ?_, fun i d e => ?_, fun i j d d' e e2 => ?_⟩
  · have e : (if (G a).isSome = true ∨ a = p then none else H a) = some u := e
    split at e
    · cases e
    · exact e
  · unfold L2.start
    simp [r.length]
  · rcases no i _ e with ⟨_, z⟩ | ⟨j, x', rfl, z, h⟩
    · cases z
    · cases z
      obtain ⟨v, h1, h2⟩ := r.get h
      refine ⟨v, ?_, h2⟩
      unfold L2.start
      rw [List.map_cons, List.cons_append]
      show (vs.map some ++ _)[j]? = _
      rw [List.getElem?_append_left (by simpa using lt_of_slot (l := vs.map some) (i := j) (y := v) (by rw [List.getElem?_map, h1]; rfl)), List.getElem?_map, h1]
      rfl
  · rcases no i _ e with ⟨_, z⟩ | ⟨j, x', rfl, z, h⟩ <;> cases z
  · rcases no i _ e with ⟨_, z⟩ | ⟨j, x', rfl, z, h⟩ <;> cases z
  · cases e
    exact ⟨np, by simp, o.there⟩
  · rcases no i _ e with ⟨rfl, z⟩ | ⟨j, x', rfl, z, h⟩
    · cases z
      exact ⟨p, rfl, rfl, o⟩
    · cases z
  · rcases no i _ e with ⟨rfl, z⟩ | ⟨j', x', rfl, z, h⟩
    · rcases no j _ e2 with ⟨rfl, z⟩ | ⟨j', x', rfl, z, h⟩
      · rfl
      · cases z
    · cases z
theorem endI_grow {G H G' H' : Hp} {σ : L2.St} {ρ : Rho} {p : Addr} (s : Same G H) (e : Same G G') (S : StOk F (some p) G' (fun a => if (G a).isSome = true ∨ a = p then none else H a) H' σ ρ) (t : ∃ o, H p = some o) : GrowI p G H G' H' := by
  have dis : ∀ a o, G' a = some o → (if (G a).isSome = true ∨ a = p then none else H a) = none := S.dis
  have fsub : ∀ a o, (if (G a).isSome = true ∨ a = p then none else H a) = some o → H' a = some o := S.fsub
  obtain ⟨np, _, _⟩ := S.iot p rfl
  refine ⟨fun a o n h => ?_, e, S.sub, fun a o h h0 => ?_⟩
  · cases q : G a with
    | none => exact fsub a o (by simp [q, h, n])
    | some u =>
      have h1 := s a u q
      rw [h] at h1
      cases h1
      exact S.sub a _ (e a _ q)
  · by_cases z : a = p
    · subst z
      rw [np] at h
      cases h
    · have h1 := dis a o h
      rw [if_neg (by simp [h0, z])] at h1
      exact h1
/-- THE RULE of a def that may change the object at its first parameter -/
theorem fn_inp {P : Program} {w : World} {K : PySem.W.Frag} {mg : Str → Option Value} {base : Heap} {x qual : Str} {params : Arguments} {body : List Stmt} {scope : Scope} {f : Addr} {fd : FuncData} {N ps : List Str} {k : Nat} {d : DS}
    (FD : FunD K x qual params body scope [] [] f fd) (S : FnScope N ps scope)
    (h : ∀ (cdv : Value) (A : Around) (outer : List Env) (s : Shared) (H : Hp) (E : XK) (io : Option Addr), Room k (A.deeper (envOfC qual scope s.heap.objs.size f cdv)) →
      PSs (cxOf (L2.CX P w) P w K mg base N qual scope f cdv A outer s H E) body (tS F io (fun cls d _ H => E cls d H) d)) :
    FnOk P w K mg base (L2.CX P w) (k + 1) f fd ps (spI F ps.length (runI N.length d)) := by
  refine FD.ok S (fun vs H Q E q => q.1) fun cdv A outer s H vs Q E hr q => ?_
  obtain ⟨hl, G, p, c, qs, vr, rfl, sub, np, o, r, q⟩ := q
  refine ⟨_, h cdv A outer s H E (some p) hr, ?_⟩
  refine ⟨G, _, _, startI_ok sub np o r, ?_⟩
  unfold runI at q
  cases ed : d (some (.inp c) :: qs.map (fun p => some (.val p)) ++ List.replicate (N.length - (qs.length + 1)) none) with
  | nx ρ =>
    rw [ed] at q
    dsimp only at q
    intro σ' G' H' e S'
    split at q
    · rename_i r2 c2 heq
      split at heq
      · rename_i c3 h0
        injection heq with e1 e2
        subst e1
        subst e2
        obtain ⟨a, h1, h2, h3⟩ := S'.inp 0 _ h0
        cases h1
        exact q .non G' H' (endI_grow sub e S' o.there) h3 .non
      · cases heq
    · exact q.elim
  | rt x ρ =>
    rw [ed] at q
    dsimp only at q
    intro v σ' G' H' e S' r'
    split at q
    · rename_i r2 c2 heq
      split at heq
      · rename_i c3 h0
        injection heq with e1 e2
        subst e1
        subst e2
        obtain ⟨a, h1, h2, h3⟩ := S'.inp 0 _ h0
        cases h1
        exact q v G' H' (endI_grow sub e S' o.there) h3 r'
      · cases heq
    · exact q.elim
  | exc c as ρ => rw [ed] at q; exact q.elim
  | stuck => rw [ed] at q; exact q.elim
/-! ### a def that hands back a new list: return [..] -/
def runO (n : Nat) (d : DD (List PV)) (ps : List PV) : Option PV := match d (ps.map (fun p => some (.val p)) ++ List.replicate (n - ps.length) none) with
  | .ok xs _ => if xs.length ≤ 1000 then some (.lst xs) else none
  | _ => none
theorem fn_own {P : Program} {w : World} {K : PySem.W.Frag} {mg : Str → Option Value} {base : Heap} {x qual : Str} {params : Arguments} {es : List Expr} {p1 p2 : Pos} {scope : Scope} {f : Addr} {fd : FuncData} {N ps : List Str} {k : Nat} {d : DD (List PV)}
    (FD : FunD K x qual params [.Return (some (.List es p1)) p2] scope [] [] f fd) (S : FnScope N ps scope)
    (h : ∀ (cdv : Value) (A : Around) (outer : List Env) (s : Shared) (H : Hp) (E : XK), Room k (A.deeper (envOfC qual scope s.heap.objs.size f cdv)) →
      PA (cxOf (L2.CX P w) P w K mg base N qual scope f cdv A outer s H E) es (tA F none (fun cls d _ H => E cls d H) d)) :
    FnOk P w K mg base (L2.CX P w) (k + 1) f fd ps (spO F ps.length (runO N.length d)) := by
  refine FD.ok S (fun vs H Q E q => q.1) fun cdv A outer s H vs Q E hr q => ⟨_, pss_one (ps_ret (pe_lst (h cdv A outer s H E hr))), ?_⟩
  obtain ⟨hl, G, qs, sub, r, q⟩ := q
  refine ⟨G, _, _, start_ok sub r, ?_⟩
  unfold runO at q
  cases ed : d (qs.map (fun p => some (.val p)) ++ List.replicate (N.length - qs.length) none) with
  | ok xs ρ =>
    rw [ed] at q
    intro us G' H' e S' r'
    dsimp only at q
    by_cases l : xs.length ≤ 1000
    · rw [if_pos l] at q
      refine ⟨by rw [← r'.length]; exact line1000 l, fun p n => ?_⟩
      have g := end_grow sub e S'
      have g2 : Grow G H G' (upd H' p (.lst us)) := ⟨g.all.trans (same_upd n), g.gle, S'.sub.trans (same_upd n), g.new⟩
      exact q p G' _ g2 (g.all.free n) (S'.sub.free n) (.lst upd_same r')
    · rw [if_neg l] at q
      exact q.elim
  | exc c as ρ => rw [ed] at q; exact q.elim
  | stuck => rw [ed] at q; exact q.elim
/-- x = f(..), f hands back a new list -/
def sCallO (i : Nat) (φ : List PV → Option PV) (d : DD (List PV)) : DS := fun ρ => (d ρ).toOut fun xs ρ => match φ xs with
  | some c => .nx (ρ.set i (some (.own c)))
  | none => .stuck
theorem st_callO {k : Nat} {f : Addr} {fd : FuncData} {ps : List Str} {φ : List PV → Option PV} {x y : Str} {p py : Pos} {i : Nat} {d : DD (List PV)} (n : Nat) (tk : Takes X W) (G : FnOk X.prog X.w X.K X.mg X.base (CX X.prog X.w) k f fd ps (spO F n φ)) (hr : Room k X.A) (hm : X.mg x = some (.ref f))
    (hk : PySem.W.keepIn X.K (.ref f) = true) (hb : Binds X.K fd ps []) (hN : X.N.Nodup) (hi : X.N[i]? = some y) (hy : Loc X.env.scope y) (hg : Gl X x) (ha : PA X (e :: es) (tA F io W d)) [L : LenA d n] (hdb : (x == ("__debug__" : Str)) = false := by decide)
    (he : starEach (e :: es) X.env = (false, eval e X.env) :: starEach es X.env := by rfl) (hpl : (backTo pos (starEach es X.env)).any (·.1) = false := by rfl) {pos2 : Pos} (hs : swapsWith (.Call (.Name x p) (e :: es) [] pos) (some (.Name y py)) pos2.line X.env = pure false := by rfl)
    (hf : X.fn y = true ∨ X.env.scope.names.lookup y = some .local := by first | exact .inl rfl | exact .inr rfl | assumption) :
    PS X (.Assign [.Name y py] (.Call (.Name x p) (e :: es) [] pos) pos2) (tS F io W (sCallO i φ d)) := by
  refine (ps_set hN hi hy (pe_callS (E := fun σ => WE W σ) G hr hg hm hk hb (fun σ => passAt tk σ) ha hdb he hpl) hs hf).imp fun D σ H ⟨G, Fr, ρ, S, q⟩ => ?_
  refine ⟨G, Fr, ρ, S, ?_⟩
  have q : PostS F io W Fr G D ((d ρ).toOut fun xs ρ => match φ xs with
    | some c => .nx (ρ.set i (some (.own c)))
    | none => .stuck) := q
  cases ed : d ρ with
  | stuck => rw [ed] at q; exact q
  | exc c as ρ1 => rw [ed] at q; exact fun dd G1 H1 e1 S1 x1 => q dd σ G1 H1 e1 S1 x1
  | ok xs ρ1 =>
    rw [ed] at q
    intro vs G1 H1 e1 S1 r1
    refine ⟨by rw [← r1.length]; exact L.len _ _ _ ed, G1, xs, S1.sub, r1, ?_⟩
    have q : PostS F io W Fr G D (match φ xs with
      | some c => .nx (ρ1.set i (some (.own c)))
      | none => .stuck) := q
    cases ef : φ xs with
    | some c =>
      rw [ef] at q
      intro a G2 H2 g na nG o
      refine PostS.next (PostS.gle (e1.trans g.gle) q) ((S1.grow g).take_own nG (S1.fsub.free na) (fun ee => ?_) (fun j c2 ej es2 => ?_) o)
      · obtain ⟨_, _, u, hu⟩ := S1.iot a ee
        rw [na] at hu
        cases hu
      · obtain ⟨b, h1, _, _, h4, _⟩ := S1.own j c2 ej
        rw [es2] at h1
        cases h1
        obtain ⟨u, hu⟩ := h4.there
        rw [na] at hu
        cases hu
    | none => rw [ef] at q; exact q.elim

/-! ### try: .. except X: .. except Y: .. -/
def hndl (sub : Nat → Nat → Bool) : List (Nat × DS) → Nat → List PV → Rho → Out
  | [], c, as, ρ => .exc c as ρ
  | (k, d) :: r, c, as, ρ => if sub c k = true then (match d ρ with
      | .nx ρ => .nx ρ
      | .rt p ρ => .rt p ρ
      | _ => .stuck) else hndl sub r c as ρ
def sTry (n : List Nat) (sub : Nat → Nat → Bool) (d : DS) (hs : List (Nat × DS)) : DS := fun ρ => match d ρ with
  | .exc c as ρ' => if n.contains c = true then hndl sub hs c as ρ' else .stuck
  | o => o
/-- which classes are under which -/
def SubOk (F : Fx) (n : List Nat) (sub : Nat → Nat → Bool) : Prop := ∀ c k, n.contains c = true → n.contains k = true → PySem.W.exmOne F.K (.ref (F.cls c)) (.ref (F.cls k)) = some (sub c k)
def hvals (F : Fx) (io : Option Addr) : List (Nat × DS) → List (Value × (Addr → Value → Option Addr → TS))
  | [] => []
  | (c, d) :: r => (.ref (F.cls c), fun _ _ _ => tS F io W0 d) :: hvals F io r
theorem hndl_ok {n : List Nat} {sub : Nat → Nat → Bool} {K : PySem.W.Frag} {Fr G H : Hp} {σ : L2.St} {ρ : Rho} {D : Ends} {c : Nat} {as : List PV} {dd : Option Addr} (hK : F.K = K) (hsub : SubOk F n sub) (hc : n.contains c = true) (S : StOk F io G Fr H σ ρ) (xa : ExcAt F G H c as dd) : ∀ {hs : List (Nat × DS)}, (∀ h ∈ hs, n.contains h.1 = true) →
    PostS F io W Fr G D (hndl sub hs c as ρ) → wMany K W D (hvals F io hs) (.ref (F.cls c)) dd σ H
  | [], _, q => q dd σ G H (Same.refl _) S xa
  | (k, d) :: r, hk, q => by
    refine ⟨sub c k, by rw [← hK]; exact hsub c k hc (hk _ List.mem_cons_self), fun e a na => ?_, fun e => ?_⟩
    · have q : PostS F io W Fr G D (if sub c k = true then (match d ρ with
        | .nx ρ => .nx ρ
        | .rt p ρ => .rt p ρ
        | _ => .stuck) else hndl sub r c as ρ) := q
      rw [if_pos e] at q
      refine ⟨G, Fr, ρ, S, ?_⟩
      show PostS F io W0 Fr G D (d ρ)
      cases ed : d ρ with
      | nx ρ1 => rw [ed] at q; exact q
      | rt p ρ1 => rw [ed] at q; exact q
      | exc c as ρ1 => rw [ed] at q; exact q.elim
      | stuck => rw [ed] at q; exact q.elim
    · have q : PostS F io W Fr G D (if sub c k = true then (match d ρ with
        | .nx ρ => .nx ρ
        | .rt p ρ => .rt p ρ
        | _ => .stuck) else hndl sub r c as ρ) := q
      rw [if_neg (by rw [e]; exact Bool.false_ne_true)] at q
      exact hndl_ok hK hsub hc S xa (fun h hh => hk h (List.mem_cons_of_mem _ hh)) q
theorem try_step {n : List Nat} {sub : Nat → Nat → Bool} {K : PySem.W.Frag} {d : DS} {hs : List (Nat × DS)} (hK : F.K = K) (hsub : SubOk F n sub) (hk : ∀ h ∈ hs, n.contains h.1 = true) {D : Ends} {σ : L2.St} {H : Hp} (h : tS F io W (sTry n sub d hs) D σ H) : tS F io (wMany K W D (hvals F io hs)) d D σ H := by
  obtain ⟨G, Fr, ρ, S, q⟩ := h
  refine ⟨G, Fr, ρ, S, ?_⟩
  unfold sTry at q
  cases ed : d ρ with
  | nx ρ1 => rw [ed] at q; exact q
  | rt p ρ1 => rw [ed] at q; exact q
  | stuck => rw [ed] at q; exact q
  | exc c as ρ1 =>
    rw [ed] at q
    have q : PostS F io W Fr G D (if n.contains c = true then hndl sub hs c as ρ1 else .stuck) := q
    by_cases l : n.contains c = true
    · rw [if_pos l] at q
      exact fun dd σ' G' H' e S' xa => hndl_ok hK hsub l S' xa hk (PostS.gle e q)
    · rw [if_neg l] at q
      exact q.elim
theorem st_try {n : List Nat} {sub : Nat → Nat → Bool} {body : List Stmt} {h₀ : ExceptHandler} {hds : List ExceptHandler} {d : DS} {hs : List (Nat × DS)} (hK : F.K = X.K) (hsub : SubOk F n sub) (hk : (hs.all fun h => n.contains h.1) = true) (hst : X.stack = X.env :: X.outer) (hf : X.env.frame = some X.env.locals) (tk : Takes X W)
    (hb : ∀ (W : WX) (pn : List (Addr × Obj)) (xe : Value → Shared → Prop), Takes (X.tr pn xe) W → PSs (X.tr pn xe) body (tS F io W d)) (hh : HdsOk X (h₀ :: hds) (hvals F io hs)) : PS X (.Try body (h₀ :: hds) [] [] pos) (tS F io W (sTry n sub d hs)) :=
  (ps_try_many (tb := fun W => tS F io W d) hst hf tk (fun W pn xe tk _ => hb W pn xe tk) hh).imp fun D σ H h => try_step hK hsub (fun h m => List.all_eq_true.mp hk h m) h
end
end Pl

set_option maxHeartbeats 4000000
/-! P8: zip, a written dict asked at once, powers, sequences of any kind walked, calls by what is known of a def. -/
namespace Pl
open PySem PySem.Spec PyProof.Rows L2 RZ

/-- a def of the text, as a caller sees it -/
def FnH (P : Program) (w : World) (K : PySem.W.Frag) (mg : Str → Option Value) (base : Heap) (k : Nat) (x : Str) (sp : Sp) : Prop :=
  ∃ f fd ps, mg x = some (.ref f) ∧ PySem.W.keepIn K (.ref f) = true ∧ Binds K fd ps [] ∧ FnOk P w K mg base (L2.CX P w) k f fd ps sp
section
variable {X : Cx} {F : Fx} {io : Option Addr} {W : WX} {a b e : Expr} {es : List Expr} {pos : Pos}
theorem _root_.L2.Room.u65 {k : Nat} {A : Around} (r : Room k A) : A.units + 65 < cLine := by have := r.un; omega
theorem pc {k : Nat} {φ : List PV → FR} {x : Str} {p : Pos} {d : DD (List PV)} {n : Nat} [L : LenA d n] (h : FnH X.prog X.w X.K X.mg X.base k x (spP F n φ)) (tk : Takes X W) (hr : Room k X.A) (hg : Gl X x) (ha : PA X (e :: es) (tA F io W d)) (hn : (e :: es).length = n := by rfl) (hdb : (x == ("__debug__" : Str)) = false := by decide)
    (he : starEach (e :: es) X.env = (false, eval e X.env) :: starEach es X.env := by rfl) (hpl : (backTo pos (starEach es X.env)).any (·.1) = false := by rfl) : PE X (.Call (.Name x p) (e :: es) [] pos) (tE F io W (dCall φ d)) := by
  obtain ⟨f, fd, ps, hm, hk, hb, G⟩ := h
  refine ⟨fun pins s σ H Q I q => ?_⟩
  refine (pe_callS (E := fun σ => WE W σ) G hr hg hm hk hb (fun σ => passAt tk σ) ha hdb he hpl).run pins s σ H Q I ?_
  obtain ⟨G, Fr, ρ, S, q⟩ := q
  refine ⟨G, Fr, ρ, S, ?_⟩
  have q : Post (Rep F) F io W Fr G σ Q ((d ρ).bind fun xs ρ => match φ xs with
    | .ok r => .ok r ρ
    | .exc c as => .exc c as ρ
    | .stuck => .stuck) := q
  cases ed : d ρ with
  | stuck => rw [ed] at q; exact q
  | exc c as ρ1 => rw [ed] at q; exact q
  | ok xs ρ1 =>
    rw [ed] at q
    intro vs G1 H1 e1 S1 r1
    refine ⟨by rw [← r1.length]; exact L.len _ _ _ ed, G1, xs, S1.sub, r1, ?_⟩
    have q : Post (Rep F) F io W Fr G σ Q (match φ xs with
      | .ok r => .ok r ρ1
      | .exc c as => .exc c as ρ1
      | .stuck => .stuck) := q
    cases ef : φ xs with
    | ok r =>
      rw [ef] at q
      exact fun v G2 H2 g r2 => q v G2 H2 (e1.trans g.gle) (S1.grow g) r2
    | exc c as =>
      rw [ef] at q
      exact fun dd G2 H2 g x2 => q dd G2 H2 (e1.trans g.gle) (S1.grow g) x2
    | stuck => rw [ef] at q; exact q
theorem pci {k : Nat} {φ : PV → List PV → FRI} {x : Str} {p p1 : Pos} {i : Nat} {y : Str} {d : DD (List PV)} {n : Nat} [L : LenA d n] (h : FnH X.prog X.w X.K X.mg X.base k x (spI F (n + 1) φ)) (tk : Takes X W) (hr : Room k X.A) (hg : Gl X x) (hv : PE X (.Name y p1) (tVar i)) (ha : PA X es (tA F io W d)) (hdb : (x == ("__debug__" : Str)) = false := by decide)
    (he : starEach (.Name y p1 :: es) X.env = (false, eval (.Name y p1) X.env) :: starEach es X.env := by rfl) (hpl : (backTo pos (starEach es X.env)).any (·.1) = false := by rfl) : PE X (.Call (.Name x p) (.Name y p1 :: es) [] pos) (tE F io W (dCallI i φ d)) := by
  obtain ⟨f, fd, ps, hm, hk, hb, G⟩ := h
  exact pp_callI n tk G hr hm hk hb hg hv ha hdb he hpl
theorem sco {pos2 : Pos} {k : Nat} {φ : List PV → Option PV} {x y : Str} {p py : Pos} {i : Nat} {d : DD (List PV)} {n : Nat} [L : LenA d n] (h : FnH X.prog X.w X.K X.mg X.base k x (spO F n φ)) (tk : Takes X W) (hr : Room k X.A) (hN : X.N.Nodup) (hi : X.N[i]? = some y) (hy : Loc X.env.scope y) (hg : Gl X x) (ha : PA X (e :: es) (tA F io W d)) (hdb : (x == ("__debug__" : Str)) = false := by decide)
    (he : starEach (e :: es) X.env = (false, eval e X.env) :: starEach es X.env := by rfl) (hpl : (backTo pos (starEach es X.env)).any (·.1) = false := by rfl) (hs : swapsWith (.Call (.Name x p) (e :: es) [] pos) (some (.Name y py)) pos2.line X.env = pure false := by rfl)
    (hf : X.fn y = true ∨ X.env.scope.names.lookup y = some .local := by first | exact .inl rfl | exact .inr rfl | assumption) : PS X (.Assign [.Name y py] (.Call (.Name x p) (e :: es) [] pos) pos2) (tS F io W (sCallO i φ d)) := by
  obtain ⟨f, fd, ps, hm, hk, hb, G⟩ := h
  exact st_callO n tk G hr hm hk hb hN hi hy hg ha hdb he hpl hs hf

/-- a name whose object may be one's own -/
def dRd (i : Nat) : DE := fun ρ => match ρ[i]? with
  | some (some (.val p)) => .ok p ρ
  | some (some (.own c)) => .ok c (ρ.set i (some (.val c)))
  | _ => .stuck
theorem pp_rd {i : Nat} {x : Str} (hv : PE X (.Name x pos) (tVar i)) : PE X (.Name x pos) (tE F io W (dRd i)) := by
  refine ⟨fun pins s σ H Q I ⟨G, Fr, ρ, S, q⟩ => ?_⟩
  unfold dRd at q
  cases e : ρ[i]? with
  | none => rw [e] at q; exact q.elim
  | some o =>
    cases o with
    | none => rw [e] at q; exact q.elim
    | some sv =>
      cases sv with
      | val p =>
        rw [e] at q
        exact (pp_var (F := F) (io := io) (W := W) hv).run pins s σ H Q I ⟨G, Fr, ρ, S, by unfold dVar; rw [e]; exact q⟩
      | own c =>
        rw [e] at q
        exact (pp_fz (F := F) (io := io) (W := W) hv).run pins s σ H Q I ⟨G, Fr, ρ, S, by unfold dFz; rw [e]; exact q⟩
      | inp c => rw [e] at q; exact q.elim

/-! ### powers -/
def pPow : PV → PV → Option PV
  | .int i, .int j => if 0 ≤ j ∧ j ≤ 1000000 ∧ i.natAbs < 2 ^ 64 then some (.int (i ^ j.toNat)) else none
  | _, _ => none
theorem b_pow : BinOk F (rI CPow fun i j => .int (i ^ j.toNat)) pPow := by
  intro G H v u x y z Q s rx ry e k
  cases rx <;> cases ry <;> first | (exfalso; cases e; done) | skip
  obtain ⟨l, rfl⟩ := ite_some e
  exact ⟨_, _, rfl, rfl, l, k _ G H (Grow.refl s) (.int _)⟩

/-! ### a sequence of any kind, walked -/
def dItS (d : DE) : DD (List PV) := fun ρ => (d ρ).bind fun x ρ => match x with
  | .str x => .ok (signsP x) ρ
  | _ => .stuck
theorem signs_len (x : Str) : (signsP x).length = x.cps.size := by simp [signsP]
theorem yields_str {G0 : Hp} {x : Str} : Yields F (Its x) G0 (signsP x) where
  go := fun i G H hi e s => by rw [signs_len] at hi; exact hi
  yld := fun i G H H' v p hp e s y => by
    obtain ⟨rfl, c, hc, rfl⟩ := y
    have h2 : (signsP x)[i]? = some (.str ⟨#[c]⟩) := by
      unfold signsP
      rw [List.getElem?_map, Array.getElem?_toList, hc]
      rfl
    rw [h2] at hp
    cases hp
    exact ⟨G, Grow.refl s, .str _⟩
  stop := fun G H e s => by rw [signs_len]; exact Nat.le_refl _
theorem qi_str {tg : Expr} {d : DE} (h : PE X a (tE F io W d)) : PI X tg a (tI F io W (dItS d)) := by
  refine (pi_str h).imp fun σ H R ⟨G, Fr, ρ, S, q⟩ => ?_
  refine tD.step S q fun v H1 G1 ρ1 x e1 S1 r1 q1 => ?_
  cases r1 <;> first | exact q1.elim | skip
  case str x => exact ⟨x, rfl, q1 _ G1 H1 (Same.refl _) S1 yields_str⟩
theorem qi_seq {tg : Expr} {d : DE} (hK : F.K = X.K) (h : PE X a (tE F io W d)) : PI X tg a (tI F io W (dItems d)) := by
  refine ⟨fun pins s σ H R I ⟨G, Fr, ρ, S, q⟩ => ?_⟩
  have kind : (∃ xs ρ', d ρ = .ok (.lst xs) ρ') ∨ (∃ xs ρ', d ρ = .ok (.tup xs) ρ') ∨ (∃ x ρ', d ρ = .ok (.str x) ρ') ∨ (∃ c as ρ', d ρ = .exc c as ρ') := by
    unfold dItems at q
    cases ed : d ρ with
    | stuck => rw [ed] at q; exact q.elim
    | exc c as ρ1 => exact .inr (.inr (.inr ⟨c, as, ρ1, rfl⟩))
    | ok x ρ1 =>
      rw [ed] at q
      cases x with
      | lst xs => exact .inl ⟨xs, ρ1, rfl⟩
      | tup xs => exact .inr (.inl ⟨xs, ρ1, rfl⟩)
      | str x => exact .inr (.inr (.inl ⟨x, ρ1, rfl⟩))
      | _ => exact q.elim
  rcases kind with ⟨xs, ρ1, ed⟩ | ⟨xs, ρ1, ed⟩ | ⟨x, ρ1, ed⟩ | ⟨c, as, ρ1, ed⟩
  · refine (qi_list hK h).run pins s σ H R I ⟨G, Fr, ρ, S, ?_⟩
    unfold dItems at q
    unfold dItL
    rw [ed] at q ⊢
    exact q
  · refine (qi_tup hK h).run pins s σ H R I ⟨G, Fr, ρ, S, ?_⟩
    unfold dItems at q
    unfold dItT
    rw [ed] at q ⊢
    exact q
  · refine (qi_str h).run pins s σ H R I ⟨G, Fr, ρ, S, ?_⟩
    unfold dItems at q
    unfold dItS
    rw [ed] at q ⊢
    exact q
  · refine (qi_list hK h).run pins s σ H R I ⟨G, Fr, ρ, S, ?_⟩
    unfold dItems at q
    unfold dItL
    rw [ed] at q ⊢
    exact q

/-! ### zip of two lists, of two tuples -/
def zipP : List PV → List PV → List PV
  | x :: xs, y :: ys => .tup [x, y] :: zipP xs ys
  | _, _ => []
def dZip (d : DD (List PV)) : DD (List PV) := fun ρ => (d ρ).bind fun xs ρ => match xs with
  | [.lst xs, .lst ys] => .ok (zipP xs ys) ρ
  | [.tup xs, .tup ys] => .ok (zipP xs ys) ρ
  | _ => .stuck
theorem zip_get : ∀ {xs ys : List PV} {i : Nat} {p : PV}, (zipP xs ys)[i]? = some p → ∃ x y, p = .tup [x, y] ∧ xs[i]? = some x ∧ ys[i]? = some y
  | x :: xs, y :: ys, 0, p, h => by cases h; exact ⟨x, y, rfl, rfl, rfl⟩
  | x :: xs, y :: ys, i + 1, p, h => zip_get (xs := xs) (ys := ys) (i := i) h
  | [], _, _, _, h => by cases h
  | _ :: _, [], _, _, h => by cases h
theorem zip_len : ∀ {xs ys : List PV}, (zipP xs ys).length = min xs.length ys.length
  | x :: xs, y :: ys => by
    show (zipP xs ys).length + 1 = _
    rw [zip_len]
    simp only [List.length_cons]
    omega
  | [], _ => by simp [zipP]
  | _ :: _, [] => by simp [zipP]
theorem yields_zipL {G0 : Hp} {a b : Addr} {ps qs : List PV} {vs us : List V} (h : G0 a = some (.lst vs)) (r : Reps F G0 ps vs) (h' : G0 b = some (.lst us)) (r' : Reps F G0 qs us) : Yields F (Itz F.K a b) G0 (zipP ps qs) where
  go := fun i G H hi e s => by
    rw [zip_len] at hi
    have l1 := r.length
    have l2 := r'.length
    exact ⟨vs, us, vs[i]'(by omega), us[i]'(by omega), .of (s _ _ (e _ _ h)), .of (s _ _ (e _ _ h')), by simp, by simp⟩
  yld := fun i G H H' v p hp e s y => by
    obtain ⟨T, x, z, rfl, nT, rfl, y1, y2⟩ := y
    obtain ⟨px, pz, rfl, g1, g2⟩ := zip_get hp
    obtain ⟨vx, k1, k2⟩ := r.get g1
    obtain ⟨vz, k3, k4⟩ := r'.get g2
    have e1 := y1 vs (.of (s _ _ (e _ _ h)))
    have e2 := y2 us (.of (s _ _ (e _ _ h')))
    rw [k1] at e1
    rw [k3] at e2
    cases e1
    cases e2
    have sm := e.trans (same_upd (o := .tup [x, z]) (s.free nT))
    exact ⟨_, Grow.new1 s nT, .tup (.inl (.inl upd_same)) (.cons (k2.same sm) (.cons (k4.same sm) .nil))⟩
  stop := fun G H e s => ⟨vs, us, .of (s _ _ (e _ _ h)), .of (s _ _ (e _ _ h')), by
    have l1 := r.length
    have l2 := r'.length
    rw [zip_len]
    omega⟩
theorem yields_zipT {G0 : Hp} {a b : Addr} {ps qs : List PV} {vs us : List V} (h : SqT F.K G0 a vs) (r : Reps F G0 ps vs) (h' : SqT F.K G0 b us) (r' : Reps F G0 qs us) : Yields F (ItzT F.K a b) G0 (zipP ps qs) where
  go := fun i G H hi e s => by
    rw [zip_len] at hi
    have l1 := r.length
    have l2 := r'.length
    exact ⟨vs, us, vs[i]'(by omega), us[i]'(by omega), SqT.same (e.trans s) h, SqT.same (e.trans s) h', by simp, by simp⟩
  yld := fun i G H H' v p hp e s y => by
    obtain ⟨T, x, z, rfl, nT, rfl, y1, y2⟩ := y
    obtain ⟨px, pz, rfl, g1, g2⟩ := zip_get hp
    obtain ⟨vx, k1, k2⟩ := r.get g1
    obtain ⟨vz, k3, k4⟩ := r'.get g2
    have e1 := y1 vs (SqT.same (e.trans s) h)
    have e2 := y2 us (SqT.same (e.trans s) h')
    rw [k1] at e1
    rw [k3] at e2
    cases e1
    cases e2
    have sm := e.trans (same_upd (o := .tup [x, z]) (s.free nT))
    exact ⟨_, Grow.new1 s nT, .tup (.inl (.inl upd_same)) (.cons (k2.same sm) (.cons (k4.same sm) .nil))⟩
  stop := fun G H e s => ⟨vs, us, SqT.same (e.trans s) h, SqT.same (e.trans s) h', by
    have l1 := r.length
    have l2 := r'.length
    rw [zip_len]
    omega⟩
theorem qi_zip {d : DD (List PV)} {p tpos : Pos} {elts : List Expr} {kk : Nat} (hK : F.K = X.K) (hg : Gl X "zip") (hm : X.mg "zip" = none) (ha : PA X [a, b] (tA F io W d)) (hs : starEach [a, b] X.env = (false, eval a X.env) :: starEach [b] X.env := by rfl) (hpl : (backTo pos (starEach [b] X.env)).any (·.1) = false := by rfl) :
    PI X (.Tuple elts kk tpos) (.Call (.Name "zip" p) [a, b] [] pos) (tI F io W (dZip d)) := by
  refine (pi_zipA hg hm ha hs hpl).imp fun σ H R ⟨G, Fr, ρ, S, q⟩ => ?_
  refine tD.step S q fun vs H1 G1 ρ1 xs e1 S1 r1 q1 => ?_
  cases r1 with
  | nil => exact q1.elim
  | cons r rr =>
    cases rr with
    | nil => cases r <;> exact q1.elim
    | cons r2 rr =>
      cases rr with
      | cons => cases r <;> cases r2 <;> exact q1.elim
      | nil =>
        cases r <;> cases r2 <;> first | exact q1.elim | skip
        case lst.lst ps a vs h r qs b us h' r' =>
          exact ⟨a, b, vs, us, rfl, .inl ⟨.of (S1.sub _ _ h), .of (S1.sub _ _ h'), q1 _ G1 H1 (Same.refl _) S1 (by rw [← hK]; exact yields_zipL h r h' r')⟩⟩
        case tup.tup ps a vs h r qs b us h' r' =>
          exact ⟨a, b, vs, us, rfl, .inr ⟨by rw [← hK]; exact SqT.same S1.sub h, by rw [← hK]; exact SqT.same S1.sub h', q1 _ G1 H1 (Same.refl _) S1 (by rw [← hK]; exact yields_zipT h r h' r')⟩⟩

/-! ### {'a': x, 'b': y}[z] -/
def dVals : List (Str × DE) → DD (List (Str × PV))
  | [] => fun ρ => .ok [] ρ
  | (k, d) :: r => fun ρ => (d ρ).bind fun x ρ => (dVals r ρ).bind fun xs ρ => .ok ((k, x) :: xs) ρ
def dPick (ds : List (Str × DE)) (dk : DE) : DE := fun ρ => (dVals ds ρ).bind fun kvs ρ => (dk ρ).bind fun k ρ => match k with
  | .str z => (match kvs.lookup z with
    | some p => .ok p ρ
    | none => .stuck)
  | _ => .stuck
theorem StOk.fr {Fr1 G Fr H : Hp} {σ : L2.St} {ρ : Rho} (S : StOk F io G Fr1 H σ ρ) (e : Same Fr Fr1) : StOk F io G Fr H σ ρ :=
  ⟨S.sub, e.trans S.fsub, fun a o h => e.free (S.dis a o h), S.len, S.val, fun i c h => by
    obtain ⟨a, h1, h2, h3, h4, h5⟩ := S.own i c h
    exact ⟨a, h1, h2, e.free h3, h4, h5⟩, S.sep, fun a h => by
    obtain ⟨h1, h2, h3⟩ := S.iot a h
    exact ⟨h1, e.free h2, h3⟩, S.inp, S.one⟩
theorem Post.fr {α β : Type} {R : Hp → α → β → Prop} {Fr1 G Fr : Hp} {σ : L2.St} {Q : β → Hp → Prop} (e : Same Fr Fr1) : ∀ {r : Res α}, Post R F io W Fr G σ Q r → Post R F io W Fr1 G σ Q r
  | .ok r ρ, h => fun v G1 H1 e1 S => h v G1 H1 e1 (S.fr e)
  | .exc c as ρ, h => fun d G1 H1 e1 S => h d G1 H1 e1 (S.fr e)
  | .stuck, h => h
def prs : List (Str × PV) → List V → List (V × V)
  | q :: qs, u :: us => (.str q.1, u) :: prs qs us
  | _, _ => []
def prK : List (Str × PV) → List V → List (Key × V)
  | q :: qs, u :: us => (.inr q.1, u) :: prK qs us
  | _, _ => []
theorem prs_map : ∀ (qs : List (Str × PV)) (us : List V), prs qs us = (prK qs us).map fun kv => (kV kv.1, kv.2)
  | q :: qs, u :: us => by
    show (V.str q.1, u) :: prs qs us = (V.str q.1, u) :: (prK qs us).map _
    rw [prs_map qs us]
  | [], _ => rfl
  | _ :: _, [] => rfl
theorem prK_len : ∀ {qs : List (Str × PV)} {us : List V}, qs.length = us.length → (prK qs us).length = qs.length
  | q :: qs, u :: us, h => congrArg (· + 1) (prK_len (Nat.succ.inj h))
  | [], [], _ => rfl
  | _ :: _, [], h => by cases h
  | [], _ :: _, h => by cases h
theorem prK_keys : ∀ {qs : List (Str × PV)} {us : List V}, qs.length = us.length → (prK qs us).map (·.1) = qs.map fun q => Sum.inr q.1
  | q :: qs, u :: us, h => by
    show Sum.inr q.1 :: (prK qs us).map _ = _
    rw [prK_keys (Nat.succ.inj h)]
    rfl
  | [], [], _ => rfl
  | _ :: _, [], h => by cases h
  | [], _ :: _, h => by cases h
theorem valV_none {kvs : List (Key × V)} {k : Key} (h : k ∉ kvs.map (·.1)) : valV kvs k = none := by
  unfold valV
  have : kvs.find? (fun kv => decide (kv.1 = k)) = none := by
    rw [List.find?_eq_none]
    intro x hx he
    exact h (List.mem_map.mpr ⟨x, hx, of_decide_eq_true he⟩)
  rw [this]
  rfl
theorem merge_nodup : ∀ (more acc : List (Key × V)), ((acc ++ more).map (·.1)).Nodup → mergeK acc more = acc ++ more
  | [], acc, _ => by rw [List.append_nil]; rfl
  | q :: qs, acc, h => by
    show mergeK (putK acc q.1 q.2) qs = _
    have hn : q.1 ∉ acc.map (·.1) := by
      rw [List.map_append, List.nodup_append] at h
      intro hm
      exact h.2.2 q.1 hm q.1 (by simp) rfl
    rw [putK_new _ (valV_none hn), merge_nodup qs _ (by simpa using h)]
    simp
theorem valV_prK {G : Hp} {z : Str} : ∀ {qs : List (Str × PV)} {us : List V} {p : PV}, Reps F G (qs.map (·.2)) us → qs.lookup z = some p → ∃ v, valV (prK qs us) (Sum.inr z) = some v ∧ Rep F G p v
  | q :: qs, _, p, .cons (v := u) (vs := us) h r, e => by
    have e : (match z == q.1 with
      | true => some q.2
      | false => List.lookup z qs) = some p := e
    by_cases c : z = q.1
    · subst c
      rw [beq_self_eq_true] at e
      cases e
      refine ⟨u, ?_, h⟩
      show (List.find? (fun kv : Key × V => decide (kv.1 = Sum.inr q.1)) ((Sum.inr q.1, u) :: prK qs us)).map (·.2) = some u
      rw [List.find?_cons]
      simp
    · rw [beq_eq_false_iff_ne.mpr c] at e
      obtain ⟨v, h1, h2⟩ := valV_prK r e
      refine ⟨v, ?_, h2⟩
      show (List.find? (fun kv : Key × V => decide (kv.1 = Sum.inr z)) ((Sum.inr q.1, u) :: prK qs us)).map (·.2) = some v
      rw [List.find?_cons]
      have : decide ((Sum.inr q.1 : Key) = Sum.inr z) = false := decide_eq_false fun h => c (Sum.inr.inj h).symm
      simp only [this]
      exact h1
  | [], _, _, _, e => by cases e
theorem pairs_step {β : Type} {R : Hp → PV → β → Prop} {Fr Fr1 : Hp} {σ : L2.St} {Q : β → Hp → Prop} (ef : Same Fr Fr1) : ∀ (ds : List (Str × DE)) {G H : Hp} {ρ : Rho} {k : List (Str × PV) → Rho → Res PV} {Q1 : List (V × V) → Hp → Prop}, StOk F io G Fr1 H σ ρ → Post R F io W Fr G σ Q ((dVals ds ρ).bind k) →
    (∀ us H1 G1 ρ1 kvs, Same G G1 → StOk F io G1 Fr1 H1 σ ρ1 → Reps F G1 (kvs.map (·.2)) us → Post R F io W Fr G1 σ Q (k kvs ρ1) → kvs.map (·.1) = ds.map (·.1) → Q1 (prs kvs us) H1) → tPairs (ds.map fun q => (tC (.str q.1), tE F io W q.2)) σ H Q1
  | [], G, H, ρ, k, Q1, S, q, f => f [] H G ρ [] (Same.refl _) S .nil q rfl
  | (n, d) :: ds, G, H, ρ, k, Q1, S, q, f => by
    have q : Post R F io W Fr G σ Q (((d ρ).bind fun x ρ => (dVals ds ρ).bind fun xs ρ => .ok ((n, x) :: xs) ρ).bind k) := q
    refine ⟨G, Fr1, ρ, S, ?_⟩
    dsimp only
    cases ed : d ρ with
    | exc c as ρ1 =>
      rw [ed] at q
      exact fun dd G' H' e S' x => q dd G' H' e (S'.fr ef) x
    | stuck => rw [ed] at q; exact q.elim
    | ok x ρ1 =>
      rw [ed] at q
      intro u G1 H1 e1 S1 r1
      have q1 : Post R F io W Fr G1 σ Q ((dVals ds ρ1).bind fun xs ρ => k ((n, x) :: xs) ρ) := by
        have q := Post.gle e1 q
        have eb : (Res.bind ((dVals ds ρ1).bind fun xs ρ => .ok ((n, x) :: xs) ρ) k) = (dVals ds ρ1).bind fun xs ρ => k ((n, x) :: xs) ρ := by cases dVals ds ρ1 <;> rfl
        rw [← eb]
        exact q
      refine pairs_step ef ds S1 q1 fun us H2 G2 ρ2 kvs e2 S2 r2 q2 hk => ?_
      exact f (u :: us) H2 G2 ρ2 ((n, x) :: kvs) (e1.trans e2) S2 (.cons (r1.same e2) r2) q2 (congrArg (n :: ·) hk)
theorem StOk.fr_add {G Fr H : Hp} {σ : L2.St} {ρ : Rho} {p : Addr} {o : HO} (S : StOk F io G Fr H σ ρ) (hp : H p = some o) (hG : G p = none) (nI : io ≠ some p) (no : ∀ (j : Nat) (d : PV), ρ[j]? = some (some (SV.own d)) → σ[j]? ≠ some (some (V.ref p))) : StOk F io G (upd Fr p o) H σ ρ := by
  refine ⟨S.sub, fun b u h => ?_, fun b u h => ?_, S.len, S.val, fun i c e => ?_, S.sep, fun b e => ?_, S.inp, S.one⟩
  · by_cases z : b = p
    · subst z
      rw [upd_same] at h
      cases h
      exact hp
    · rw [upd_ne z] at h
      exact S.fsub b u h
  · rw [upd_ne (fun z => by rw [z, hG] at h; cases h)]
    exact S.dis b u h
  · obtain ⟨b, h1, h2, h3, h4, h5⟩ := S.own i c e
    refine ⟨b, h1, h2, ?_, h4, h5⟩
    rw [upd_ne (fun z => no i c e (by rw [← z]; exact h1))]
    exact h3
  · obtain ⟨h1, h2, u, hu⟩ := S.iot b e
    refine ⟨h1, ?_, u, hu⟩
    rw [upd_ne (fun z => nI (by rw [← z]; exact e))]
    exact h2
theorem StOk.apart {G Fr H : Hp} {σ : L2.St} {ρ : Rho} {p : Addr} {o : HO} (S : StOk F io G Fr H σ ρ) (h : Fr p = some o) : G p = none ∧ io ≠ some p ∧ ∀ (j : Nat) (d : PV), ρ[j]? = some (some (SV.own d)) → σ[j]? ≠ some (some (V.ref p)) := by
  refine ⟨?_, fun e => ?_, fun j d e h1 => ?_⟩
  · cases c : G p with
    | none => rfl
    | some u =>
      have := S.dis p u c
      rw [h] at this
      cases this
  · obtain ⟨_, h2, _⟩ := S.iot p e
    rw [h] at h2
    cases h2
  · obtain ⟨b, g1, _, g3, _, _⟩ := S.own j d e
    rw [h1] at g1
    cases g1
    rw [h] at g3
    cases g3
theorem pp_pick {keys : List (Option Expr)} {values : List Expr} {ds : List (Str × DE)} {dk : DE} {p2 : Pos} (hu : X.A.units + 1 < cLine) (hp : PPs X p2 keys values (ds.map fun q => (tC (.str q.1), tE F io W q.2))) (hall : keys.all (·.isSome) = true) (hl : keys.length = values.length) (h0 : keys ≠ []) (h15 : keys.length ≤ 15)
    (hd15 : ds.length ≤ 15) (hnd : (ds.map (·.1)).Nodup) (h : PE X a (tE F io W dk)) (hs : NoSl a) : PE X (.Subscript (.Dict keys values p2) a pos) (tE F io W (dPick ds dk)) := by
  refine (pe_dget hu (pe_disp hp hall hl h0 h15) h hs).imp fun σ H Q ⟨G, Fr, ρ, S, q⟩ => ?_
  intro p np
  have nF := S.fsub.free np
  have S1 := S.grow (Grow.new0 (o := .dK []) S.sub np)
  have io0 : io ≠ some p := fun e => by
    obtain ⟨_, _, u, hu⟩ := S.iot p e
    rw [np] at hu
    cases hu
  have no0 : ∀ (j : Nat) (d : PV), ρ[j]? = some (some (SV.own d)) → σ[j]? ≠ some (some (V.ref p)) := fun j d e h1 => by
    obtain ⟨b, g1, _, _, g4, _⟩ := S.own j d e
    rw [h1] at g1
    cases g1
    obtain ⟨u, hu⟩ := g4.there
    rw [np] at hu
    cases hu
  have S0 := S1.fr_add (o := .dK []) upd_same (S.sub.free np) io0 no0
  refine pairs_step (same_upd nF) ds S0 q fun us H1 G1 ρ1 kvs e1 S1 r1 q1 hk => ?_
  have hlen : kvs.length = us.length := by simpa using r1.length
  have hkl : kvs.length = ds.length := by simpa using congrArg List.length hk
  refine ⟨S1.fsub p _ upd_same, prK kvs us, prs_map _ _, by rw [prK_len hlen, hkl]; exact hd15, ?_⟩
  have hm : mergeK [] (prK kvs us) = prK kvs us := by
    rw [merge_nodup _ _ (by
      rw [List.nil_append, prK_keys hlen]
      have e2 : (kvs.map fun q => (Sum.inr q.1 : Key)) = (ds.map (·.1)).map Sum.inr := by rw [← hk, List.map_map]; rfl
      rw [e2]
      exact List.Pairwise.map _ (fun x y h e => h (Sum.inr.inj e)) hnd)]
    rfl
  rw [hm]
  obtain ⟨a1, a2, a3⟩ := S1.apart (p := p) upd_same
  have S2 := (S1.fr (same_upd nF)).upd_at (o := .dK (prK kvs us)) a1 nF a2 a3
  have S3 := S2.fr_add (o := .dK (prK kvs us)) upd_same a1 a2 a3
  refine tD.step S3 (Post.fr (same_upd nF) q1) fun u H4 G4 ρ4 x e4 S4 r4 q4 => ?_
  cases r4 <;> first | exact q4.elim | skip
  case str z =>
    have q4 : Post (Rep F) F io W (upd Fr p (.dK (prK kvs us))) G4 σ Q (match kvs.lookup z with
      | some p => Res.ok p ρ4
      | none => .stuck) := q4
    cases c : kvs.lookup z with
    | none => rw [c] at q4; exact q4.elim
    | some pz =>
      rw [c] at q4
      obtain ⟨v, g1, g2⟩ := valV_prK r1 c
      exact ⟨p, v, rfl, .inl ⟨_, Sum.inr z, .inl (S4.fsub p _ upd_same), rfl, g1.symm⟩, q4.done S4 (g2.same e4)⟩
end
end Pl

set_option maxHeartbeats 4000000
/-! P9: not x by truth; fewer classes of errors. -/
namespace Pl
open PySem PySem.Spec PyProof.Rows L2
section
variable {X : Cx} {F : Fx} {io : Option Addr} {W : WX} {a b e : Expr} {es : List Expr} {pos : Pos}
def dNotT (d : DE) : DE := fun ρ => (d ρ).bind fun x ρ => ofO ((truth x).map fun b => .bl (!b)) ρ
theorem pp_notT {d : DE} (hK : F.K = X.K) (h : PE X a (tE F io W d)) : PE X (.UnaryOp .Not a pos) (tE F io W (dNotT d)) := by
  refine (pe_notT h).imp fun σ H Q ⟨G, Fr, ρ, S, q⟩ => ?_
  refine tD.step S q fun v H1 G1 ρ1 x e1 S1 r1 q1 => ?_
  obtain ⟨k, hk, kk⟩ := Post.ofO (γ := Unit) q1 S1
  cases ht : truth x with
  | none => rw [ht] at hk; cases hk
  | some b =>
    rw [ht] at hk
    cases hk
    exact ⟨b, tru_of hK S1.sub r1 ht, kk _ G1 H1 (Grow.refl S1.sub) (.bl _)⟩
theorem SubOk.of {n m : List Nat} {sub : Nat → Nat → Bool} (h : SubOk F n sub) (hs : (m.all fun c => n.contains c) = true) : SubOk F m sub := fun c k hc hk =>
  h c k (List.all_eq_true.mp hs c (List.contains_iff_mem.mp hc)) (List.all_eq_true.mp hs k (List.contains_iff_mem.mp hk))
end
theorem blkC_of {N N' : List Str} {sc sc' scope : Scope} {own : List (Str × Nat)} (h1 : N = N') (h2 : sc = sc') (h : blkC N' sc' scope own = true) : BlkOk N sc scope own := by
  subst h1; subst h2; exact blkOk_by h
end Pl

set_option maxHeartbeats 4000000
/-! P10: texts: methods, f-strings, str(), int(), walks sign by sign, enumerate; x op= e; small dicts. -/
namespace Pl
open PySem PySem.Spec PyProof.Rows L2
section
variable {X : Cx} {F : Fx} {io : Option Addr} {W : WX} {a b o e : Expr} {es : List Expr} {pos apos : Pos}
/-! ### methods of a text with one text -/
theorem pp_m1 {id : String} {name : Str} {r : V → List V → Hp → VK → Prop} {f : PV → PV → Option PV} {da db : DE} (slot : Slot "str" name id) (ty : typeOf (.builtin id) = pure (.type "method_descriptor")) (rule : MtR X id r) (hm : MtOk F r f) (ho : PE X o (tE F io W da)) (he : PE X e (tE F io W db))
    (hs : starEach [e] X.env = [(false, eval e X.env)] := by rfl) (hbase : attributeBase o name X.env (eval o X.env) = eval o X.env := by rfl) (hline : (apos.endLine == pos.line) = true := by rfl) :
    PE X (.Call (.Attribute o name apos) [e] [] pos) (tE F io W (dBinS f da db)) :=
  (pe_m1 slot ty rule ho he hs hbase hline).imp fun σ H Q h => m1_step (F := F) (io := io) (W := W) (f := f) hm h
def pStarts : PV → PV → Option PV
  | .str x, .str y => some (.bl (Txt.startswith x y))
  | _, _ => none
theorem m_starts : MtOk F (fun x xs H Q => ∃ a b, x = .str a ∧ xs = [.str b] ∧ Q (.bl (Txt.startswith a b)) H) pStarts := by
  intro G H v u x y z Q s rx ry e k
  cases rx <;> cases ry <;> first | (exfalso; cases e; done) | skip
  cases e
  exact ⟨_, _, rfl, rfl, k _ G H (Grow.refl s) (.bl _)⟩
def pSplit : PV → PV → Option PV
  | .str x, .str y => if (y.length == 0) = false ∧ x.length + 2 ≤ LIM then some (.lst ((Txt.split x y).map .str)) else none
  | _, _ => none
theorem reps_strs {G : Hp} : ∀ l : List Str, Reps F G (l.map .str) (l.map V.str)
  | [] => .nil
  | x :: l => .cons (.str x) (reps_strs l)
theorem m_split : MtOk F (fun x xs H Q => ∃ a b, x = .str a ∧ xs = [.str b] ∧ (b.length == 0) = false ∧ a.length + 2 ≤ sizeLine ∧ rNewStrs (Txt.split a b) H Q) pSplit := by
  intro G H v u x y z Q s rx ry e k
  cases rx <;> cases ry <;> first | (exfalso; cases e; done) | skip
  case str.str i j =>
    obtain ⟨⟨l1, l2⟩, rfl⟩ := ite_some e
    exact ⟨_, _, rfl, rfl, l1, lim_line l2, fun p n => k _ _ _ (Grow.new1 s n) (.lst upd_same (reps_strs _))⟩
def pIndex : PV → PV → Option PV
  | .str x, .str y => (Txt.index0 x y).map fun k => .int (k : Nat)
  | _, _ => none
def rIdx : V → List V → Hp → VK → Prop := fun x xs H Q => ∃ (a b : Str) (k : Nat), x = .str a ∧ xs = [.str b] ∧ Txt.index0 a b = some k ∧ Q (.int (k : Nat)) H
theorem mt_idx : MtR X "str.index" rIdx := by
  intro pins s σ H x xs v us Q I rx rs h
  obtain ⟨a, b, k, rfl, rfl, hk, q⟩ := h
  obtain ⟨t, rfl⟩ := rx
  cases rs with
  | cons r1 rs =>
    cases rs
    obtain ⟨u, rfl⟩ := r1
    unfold Txt.index0 at hk
    cases c : Builtin.Str.occurrences a b 0 a.length 1 with
    | nil => rw [c] at hk; cases hk
    | cons j rest =>
      rw [c] at hk
      cases hk
      exact PySem.SC.index c ⟨.int (k : Nat), H, I.tok _, ⟨_, rfl⟩, q⟩
theorem m_index : MtOk F rIdx pIndex := by
  intro G H v u x y z Q s rx ry e k
  cases rx <;> cases ry <;> first | (exfalso; cases e; done) | skip
  case str.str i j =>
    unfold pIndex at e
    dsimp only at e
    cases c : Txt.index0 i j with
    | none => rw [c] at e; cases e
    | some m => rw [c] at e; cases e; exact ⟨_, _, _, rfl, rfl, c, k _ G H (Grow.refl s) (.int _)⟩
theorem pp_starts {da db : DE} (ho : PE X o (tE F io W da)) (he : PE X e (tE F io W db)) (hs : starEach [e] X.env = [(false, eval e X.env)] := by rfl) (hbase : attributeBase o "startswith" X.env (eval o X.env) = eval o X.env := by rfl) (hline : (apos.endLine == pos.line) = true := by rfl) :
    PE X (.Call (.Attribute o "startswith" apos) [e] [] pos) (tE F io W (dBinS pStarts da db)) := pp_m1 PySem.F.slot_str_startswith PySem.F.type_str_startswith mt_startswith m_starts ho he hs hbase hline
theorem pp_split {da db : DE} (ho : PE X o (tE F io W da)) (he : PE X e (tE F io W db)) (hs : starEach [e] X.env = [(false, eval e X.env)] := by rfl) (hbase : attributeBase o "split" X.env (eval o X.env) = eval o X.env := by rfl) (hline : (apos.endLine == pos.line) = true := by rfl) :
    PE X (.Call (.Attribute o "split" apos) [e] [] pos) (tE F io W (dBinS pSplit da db)) := pp_m1 PySem.F.slot_str_split PySem.F.type_str_split mt_split m_split ho he hs hbase hline
theorem pp_index {da db : DE} (ho : PE X o (tE F io W da)) (he : PE X e (tE F io W db)) (hs : starEach [e] X.env = [(false, eval e X.env)] := by rfl) (hbase : attributeBase o "index" X.env (eval o X.env) = eval o X.env := by rfl) (hline : (apos.endLine == pos.line) = true := by rfl) :
    PE X (.Call (.Attribute o "index" apos) [e] [] pos) (tE F io W (dBinS pIndex da db)) := pp_m1 PySem.F.slot_str_index PySem.F.type_str_index mt_idx m_index ho he hs hbase hline
/-! ### f-strings -/
def pFmt : PV → Option PV
  | .str y => if y.length ≤ LIM then some (.str y) else none
  | .int i => if i.natAbs.log2 < 1920 then some (.str (toString i)) else none
  | _ => none
def dFmt (d : DE) : DE := dUn pFmt d
theorem pp_fmt {d : DE} (h : PE X e (tE F io W d)) : PE X (.FormattedValue e (-1) none pos) (tE F io W (dFmt d)) := by
  refine (pe_fmt h).imp fun σ H Q ⟨G, Fr, ρ, S, q⟩ => ?_
  refine tD.step S q fun v H1 G1 ρ1 x e1 S1 r1 q1 => ?_
  obtain ⟨z, hz, k⟩ := Post.ofO (γ := Unit) q1 S1
  cases r1 <;> first | (exfalso; cases hz; done) | skip
  case str y =>
    obtain ⟨l, rfl⟩ := ite_some hz
    exact .inl ⟨_, rfl, lim_line l, k _ G1 H1 (Grow.refl S1.sub) (.str _)⟩
  case int i =>
    obtain ⟨l, rfl⟩ := ite_some hz
    exact .inr ⟨_, rfl, l, k _ G1 H1 (Grow.refl S1.sub) (.str _)⟩
def dJ : List DE → Str → DE
  | [], acc => fun ρ => .ok (.str acc) ρ
  | d :: ds, acc => fun ρ => (d ρ).bind fun x ρ => match x with
    | .str y => if (acc ++ y).length ≤ LIM then dJ ds (acc ++ y) ρ else .stuck
    | _ => .stuck
theorem js_step : ∀ (ds : List DE) (acc : Str) {G Fr H : Hp} {ρ : Rho} {σ : L2.St} {Q : VK}, StOk F io G Fr H σ ρ → Post (Rep F) F io W Fr G σ Q (dJ ds acc ρ) → tJs (ds.map (tE F io W)) acc σ H (fun out H1 => Q (.str out) H1)
  | [], acc, G, Fr, H, ρ, σ, Q, S, q => q.done S (.str acc)
  | d :: ds, acc, G, Fr, H, ρ, σ, Q, S, q => by
    refine tD.step (W := W) (k := fun x ρ => match x with
      | .str y => if (acc ++ y).length ≤ LIM then dJ ds (acc ++ y) ρ else .stuck
      | _ => .stuck) S q fun v H1 G1 ρ1 x e1 S1 r1 q1 => ?_
    cases r1 <;> first | exact q1.elim | skip
    case str y =>
      have q1 : Post (Rep F) F io W Fr G1 σ Q (if (acc ++ y).length ≤ LIM then dJ ds (acc ++ y) ρ1 else .stuck) := q1
      by_cases l : (acc ++ y).length ≤ LIM
      · rw [if_pos l] at q1
        exact ⟨_, rfl, lim_line l, js_step ds _ S1 q1⟩
      · rw [if_neg l] at q1
        exact q1.elim
inductive PJd (X : Cx) (F : Fx) (io : Option Addr) (W : WX) : List Expr → List DE → Prop where
  | nil : PJd X F io W [] []
  | cons {e : Expr} {d : DE} {es : List Expr} {ds : List DE} (h : PE X e (tE F io W d)) (r : PJd X F io W es ds) : PJd X F io W (e :: es) (d :: ds)
theorem PJd.pj {es : List Expr} {ds : List DE} (h : PJd X F io W es ds) : PJ X es (ds.map (tE F io W)) := by
  induction h with
  | nil => exact .nil
  | cons h r ih => exact .cons h ih
theorem pj_nil : PJd X F io W [] [] := .nil
theorem pj_cons {d : DE} {ds : List DE} (h : PE X e (tE F io W d)) (r : PJd X F io W es ds) : PJd X F io W (e :: es) (d :: ds) := .cons h r
theorem pp_joined {v1 v2 : Expr} {rest : List Expr} {ds : List DE} (h : PJd X F io W (v1 :: v2 :: rest) ds) : PE X (.JoinedStr (v1 :: v2 :: rest) pos) (tE F io W (dJ ds Str.empty)) :=
  (pe_joined h.pj).imp fun σ H Q ⟨G, Fr, ρ, S, q⟩ => js_step ds Str.empty S q
/-! ### str(x), int(x) -/
theorem CallR.or {f : Value} {r r' : List V → Hp → VK → Prop} (h : CallR X f r) (h' : CallR X f r') : CallR X f (fun xs H Q => r xs H Q ∨ r' xs H Q) := by
  intro pins s σ H xs us Q I rs q
  rcases q with q | q
  · exact h pins s σ H xs us Q I rs q
  · exact h' pins s σ H xs us Q I rs q
def fStr : List PV → Option PV
  | [.int i] => if i.natAbs.log2 < 1920 then some (.str (toString i)) else none
  | [.str x] => some (.str x)
  | _ => none
def rStrA : List V → Hp → VK → Prop := fun xs H Q => (∃ i, xs = [.int i] ∧ i.natAbs.log2 < 1920 ∧ Q (.str (toString i)) H) ∨ ∃ a, xs = [.str a] ∧ Q (.str a) H
theorem call_strA : CallR X (.type "str") rStrA := CallR.or call_str_int SkE.call_str_str
theorem f_str : CalOk F rStrA fStr := by
  intro G H vs xs z Q s rx e k
  unfold fStr at e
  split at e
  · obtain ⟨l, rfl⟩ := ite_some e
    cases rx with
    | cons r1 r =>
      cases r
      cases r1
      exact .inl ⟨_, rfl, l, k _ G H (Grow.refl s) (.str _)⟩
  · cases e
    cases rx with
    | cons r1 r =>
      cases r
      cases r1
      exact .inr ⟨_, rfl, k _ G H (Grow.refl s) (.str _)⟩
  · cases e
def fIntA : List PV → Option PV
  | [.int i] => some (.int i)
  | [.bl k] => some (.int (if k then 1 else 0))
  | [.str x] => if x.length ≤ 640 then (PySem.intText? x).map .int else none
  | _ => none
def rIntA : List V → Hp → VK → Prop := fun xs H Q => ((∃ i, xs = [.int i] ∧ Q (.int i) H) ∨ ∃ k, xs = [.bl k] ∧ Q (.int (if k then 1 else 0)) H) ∨ ∃ a n, xs = [.str a] ∧ PySem.intText? a = some n ∧ a.length ≤ 640 ∧ Q (.int n) H
theorem call_intA : CallR X (.type "int") rIntA := CallR.or call_int1 call_int_str
theorem f_intA : CalOk F rIntA fIntA := by
  intro G H vs xs z Q s rx e k
  unfold fIntA at e
  split at e
  · cases e
    cases rx with
    | cons r1 r =>
      cases r
      cases r1
      exact .inl (.inl ⟨_, rfl, k _ G H (Grow.refl s) (.int _)⟩)
  · cases e
    cases rx with
    | cons r1 r =>
      cases r
      cases r1
      exact .inl (.inr ⟨_, rfl, k _ G H (Grow.refl s) (.int _)⟩)
  · rename_i x
    by_cases l : x.length ≤ 640
    · rw [if_pos l] at e
      cases c : PySem.intText? x with
      | none => rw [c] at e; cases e
      | some n =>
        rw [c] at e
        cases e
        cases rx with
        | cons r1 r =>
          cases r
          cases r1
          exact .inr ⟨_, n, rfl, c, l, k _ G H (Grow.refl s) (.int _)⟩
    · rw [if_neg l] at e
      cases e
  · cases e
/-! ### x += e of whole numbers -/
def pIpAdd : PV → PV → Option PV
  | .int i, .int j => some (.int (i + j))
  | _, _ => none
theorem ip_addN : IpOk F (ipI fun i j => i + j) pIpAdd := by
  intro G H v u x y z Q s rx ry e k
  cases rx <;> cases ry <;> first | (exfalso; cases e; done) | skip
  cases e
  exact ⟨_, _, rfl, rfl, k _ G H (Grow.refl s) (.int _)⟩
/-! ### enumerate -/
def enumL : Nat → List PV → List PV
  | _, [] => []
  | n, p :: ps => .tup [.int (n : Nat), p] :: enumL (n + 1) ps
theorem enumL_len : ∀ (n : Nat) (ps : List PV), (enumL n ps).length = ps.length
  | _, [] => rfl
  | n, _ :: ps => congrArg (· + 1) (enumL_len (n + 1) ps)
theorem enumL_get : ∀ {ps : List PV} {n i : Nat} {p : PV}, (enumL n ps)[i]? = some p → ∃ q, p = .tup [.int ((n + i : Nat) : Int), q] ∧ ps[i]? = some q
  | [], n, i, p, h => by cases h
  | q :: ps, n, 0, p, h => by
    cases h
    exact ⟨q, rfl, rfl⟩
  | q :: ps, n, i + 1, p, h => by
    obtain ⟨z, h1, h2⟩ := enumL_get (ps := ps) (n := n + 1) (i := i) (p := p) (by simpa [enumL] using h)
    exact ⟨z, by rw [h1, show n + 1 + i = n + (i + 1) from by omega], by simpa using h2⟩
def dEnum (d : DD (List PV)) : DD (List PV) := fun ρ => (d ρ).bind fun xs ρ => match xs with
  | [.lst ps] => .ok (enumL 0 ps) ρ
  | _ => .stuck
theorem yields_enum {G0 : Hp} {a : Addr} {ps : List PV} {vs : List V} (h : G0 a = some (.lst vs)) (r : Reps F G0 ps vs) : Yields F (Ite F.K a) G0 (enumL 0 ps) where
  go := fun i G H hi e s => ⟨vs, vs[i]'(by rw [← r.length]; rw [enumL_len] at hi; exact hi), .of (s _ _ (e _ _ h)), by simp⟩
  yld := fun i G H H' v p hp e s y => by
    obtain ⟨T, x, rfl, nT, rfl, y⟩ := y
    obtain ⟨q, rfl, hq⟩ := enumL_get hp
    obtain ⟨v', h1, h2⟩ := r.get hq
    have := y vs (.of (s _ _ (e _ _ h)))
    rw [h1] at this
    cases this
    have sm := e.trans (same_upd (o := .tup [.int (i : Nat), x]) (s.free nT))
    rw [Nat.zero_add]
    exact ⟨_, Grow.new1 s nT, .tup (.inl (.inl upd_same)) (.cons (.int _) (.cons (h2.same sm) .nil))⟩
  stop := fun G H e s => ⟨vs, .of (s _ _ (e _ _ h)), by rw [enumL_len, r.length]; exact Nat.le_refl _⟩
theorem qi_enum {d : DD (List PV)} {p tpos : Pos} {elts : List Expr} {kk : Nat} (hK : F.K = X.K) (hg : Gl X "enumerate") (hm : X.mg "enumerate" = none) (ha : PA X [e] (tA F io W d)) (hs : starEach [e] X.env = [(false, eval e X.env)] := by rfl) :
    PI X (.Tuple elts kk tpos) (.Call (.Name "enumerate" p) [e] [] pos) (tI F io W (dEnum d)) := by
  refine (pi_enum hg hm ha hs).imp fun σ H R ⟨G, Fr, ρ, S, q⟩ => ?_
  refine tD.step S q fun vs H1 G1 ρ1 xs e1 S1 r1 q1 => ?_
  cases r1 with
  | nil => exact q1.elim
  | cons r rr =>
    cases rr with
    | cons => cases r <;> exact q1.elim
    | nil =>
      cases r <;> first | exact q1.elim | skip
      case lst ps a vs h r => exact ⟨a, vs, rfl, .of (S1.sub _ _ h), q1 _ G1 H1 (Same.refl _) S1 (by rw [← hK]; exact yields_enum h r)⟩
end
end Pl

set_option maxHeartbeats 4000000
/-! P11: dicts with text keys: new, stored into, read; handed to a def while one keeps them. -/
namespace Pl
open PySem PySem.Spec PyProof.Rows L2 RZ
section
variable {X : Cx} {F : Fx} {io : Option Addr} {W : WX} {a b o e : Expr} {es : List Expr} {pos apos cpos : Pos}
/-- {} as a value -/
def dDic0 : DE := fun ρ => .ok (.dks [] []) ρ
theorem pp_dic0 : PE X (.Dict [] [] pos) (tE F io W dDic0) := pe_dnewK.imp fun σ H Q ⟨G, Fr, ρ, S, q⟩ p n =>
  q (.ref p) (upd G p (.dK [])) (upd H p (.dK [])) (same_upd (S.sub.free n)) (S.grow (Grow.new1 S.sub n)) (.dK (kvs := []) upd_same rfl .nil)
/-! ### what stands at a text -/
def lkS (z : Str) : List PV → List PV → Option PV
  | .str y :: ks, v :: vs => if y = z then some v else lkS z ks vs
  | _ :: ks, _ :: vs => lkS z ks vs
  | _, _ => none
theorem lkS_ok {G : Hp} {z : Str} : ∀ {kvs : List (Key × V)} {vs : List PV}, Reps F G vs (kvs.map (·.2)) → match lkS z (kvs.map fun q => keyPV q.1) vs with
    | some p => ∃ v, valV kvs (Sum.inr z) = some v ∧ Rep F G p v
    | none => valV kvs (Sum.inr z) = none
  | [], _, .nil => rfl
  | (.inl i, u) :: kvs, _, .cons (p := p) (ps := ps) h r => by
    have ih := lkS_ok (z := z) r
    have e : valV ((Sum.inl i, u) :: kvs) (Sum.inr z) = valV kvs (Sum.inr z) := valV_neg (by intro h; cases h)
    rw [e]
    exact ih
  | (.inr y, u) :: kvs, _, .cons (p := p) (ps := ps) h r => by
    have ih := lkS_ok (z := z) r
    show match (if y = z then some p else lkS z (kvs.map fun q => keyPV q.1) ps) with
      | some p => ∃ v, valV ((Sum.inr y, u) :: kvs) (Sum.inr z) = some v ∧ Rep F G p v
      | none => valV ((Sum.inr y, u) :: kvs) (Sum.inr z) = none
    by_cases c : y = z
    · rw [if_pos c]
      exact ⟨u, valV_pos (by rw [c]), h⟩
    · rw [if_neg c]
      have e : valV ((Sum.inr y, u) :: kvs) (Sum.inr z) = valV kvs (Sum.inr z) := valV_neg (by intro h; cases h; exact c rfl)
      rw [e]
      exact ih
/-- d.get(z) -/
def pGet1 : PV → PV → Option PV
  | .dks ks vs, .str z => some ((lkS z ks vs).getD .non)
  | _, _ => none
def isDk : PV → Bool
  | .dks _ _ => true
  | _ => false
def dGet1 (da db : DE) : DE := fun ρ => (da ρ).bind fun x ρ => if isDk x = true then (db ρ).bind fun y ρ => ofO (pGet1 x y) ρ else .stuck
theorem pp_get1 {da db : DE} (hu : X.A.units + 1 < cLine) (ho : PE X o (tE F io W da)) (he : PE X e (tE F io W db)) (m : M1 X o "get" apos e cpos) : PE X (.Call (.Attribute o "get" apos) [e] [] cpos) (tE F io W (dGet1 da db)) := by
  refine (pe_dget1 hu ho he m).imp fun σ H Q ⟨G, Fr, ρ, S, q⟩ => ?_
  refine tD.step S q fun v H1 G1 ρ1 x e1 S1 r1 q1 => ?_
  cases r1 <;> first | (exfalso; exact q1.elim) | skip
  case dK ks vs a kvs h hk r =>
    refine ⟨a, rfl, .inl ⟨kvs, .inl (S1.sub _ _ h)⟩, tD.step S1 q1 fun u H2 G2 ρ2 y e2 S2 r2 q2 => ?_⟩
    cases r2 <;> first | (exfalso; exact q2.elim) | skip
    case str z =>
      have w := lkS_ok (z := z) r
      subst hk
      have q2 : Post (Rep F) F io W Fr G2 σ Q (.ok ((lkS z (kvs.map fun q => keyPV q.1) vs).getD .non) ρ2) := q2
      cases c : lkS z (kvs.map fun q => keyPV q.1) vs with
      | none =>
        rw [c] at w q2
        exact ⟨none, .inl ⟨kvs, Sum.inr z, .inl (S2.sub _ _ (e2 _ _ h)), rfl, w.symm⟩, q2.done S2 .non⟩
      | some p =>
        rw [c] at w q2
        obtain ⟨v, w1, w2⟩ := w
        exact ⟨some v, .inl ⟨kvs, Sum.inr z, .inl (S2.sub _ _ (e2 _ _ h)), rfl, w1.symm⟩, q2.done S2 (w2.same e2)⟩
/-! ### a dict of one's own -/
def sNewD (i : Nat) : DS := fun ρ => .nx (ρ.set i (some (.own (.dks [] []))))
theorem st_newD {i : Nat} {x : Str} {pos' p2 : Pos} (hN : X.N.Nodup) (hi : X.N[i]? = some x) (hx : L2.Loc X.env.scope x) (hs : swapsWith (.Dict [] [] p2) (some (.Name x pos')) pos.line X.env = pure false := by rfl)
    (hf : X.fn x = true ∨ X.env.scope.names.lookup x = some .local := by first | exact .inl rfl | exact .inr rfl | assumption) : PS X (.Assign [.Name x pos'] (.Dict [] [] p2) pos) (tS F io W (sNewD i)) := by
  refine (ps_set hN hi hx pe_dnewK hs hf).imp fun D σ H ⟨G, Fr, ρ, S, q⟩ => ?_
  intro p n
  exact PostS.next q (S.new_own n (.dK (kvs := []) upd_same rfl .nil))
def putSk (z : Str) : List PV → List PV
  | [] => [.str z]
  | .str y :: ks => if y = z then .str y :: ks else .str y :: putSk z ks
  | k :: ks => k :: putSk z ks
def putSv (z : Str) (p : PV) : List PV → List PV → List PV
  | .str y :: ks, v :: vs => if y = z then p :: vs else v :: putSv z p ks vs
  | _ :: ks, v :: vs => v :: putSv z p ks vs
  | _, _ => [p]
theorem putK_cons {y z : Key} {u v : V} {kvs : List (Key × V)} (hn : ((y, u) :: kvs).map (·.1) |>.Nodup) : putK ((y, u) :: kvs) z v = if y = z then (y, v) :: kvs else (y, u) :: putK kvs z v := by
  have hn : y ∉ kvs.map (·.1) := (List.nodup_cons.mp hn).1
  by_cases c : y = z
  · subst c
    rw [if_pos rfl]
    unfold putK
    have e : (((y, u) :: kvs).any fun kv => decide (kv.1 = y)) = true := by simp
    rw [if_pos e, List.map_cons, if_pos rfl]
    congr 1
    refine (List.map_congr_left fun q hq => ?_).trans (List.map_id _)
    rw [if_neg]
    · rfl
    · intro z
      exact hn (List.mem_map.mpr ⟨q, hq, z⟩)
  · rw [if_neg c]
    unfold putK
    have e : (((y, u) :: kvs).any fun kv => decide (kv.1 = z)) = kvs.any fun kv => decide (kv.1 = z) := by
      rw [List.any_cons]
      simp [c]
    rw [e]
    by_cases d : (kvs.any fun kv => decide (kv.1 = z)) = true
    · rw [if_pos d, if_pos d, List.map_cons, if_neg c]
    · rw [if_neg d, if_neg d, List.cons_append]
/-- the keys of a dict of one's own are told once -/
def nodupS (ks : List PV) : Bool := match ks with
  | [] => true
  | .str y :: r => (lkS y r r).isNone && nodupS r
  | _ :: _ => false
theorem lkS_none {z : Str} : ∀ {ks vs : List PV}, ks.length = vs.length → lkS z ks vs = none → ∀ y, PV.str y ∈ ks → y ≠ z
  | k :: ks, v :: vs, hl, h, y, hm => by
    have hl2 : ks.length = vs.length := Nat.succ.inj hl
    clear hl
    cases k with
    | str x =>
      have h : (if x = z then some v else lkS z ks vs) = none := h
      by_cases c : x = z
      · rw [if_pos c] at h; cases h
      · rw [if_neg c] at h
        rcases List.mem_cons.mp hm with e | e
        · cases e; exact c
        · exact lkS_none (ks := ks) (vs := vs) hl2 h y e
    | _ =>
      rcases List.mem_cons.mp hm with e | e
      · cases e
      · exact lkS_none (ks := ks) (vs := vs) hl2 h y e
  | [], _, _, _, _, hm => absurd hm List.not_mem_nil
  | _ :: _, [], hl, _, _, _ => by cases hl
theorem nodupS_ok : ∀ {kvs : List (Key × V)}, nodupS (kvs.map fun q => keyPV q.1) = true → (kvs.map (·.1)).Nodup
  | [], _ => List.nodup_nil
  | (.inl i, u) :: kvs, h => by cases h
  | (.inr y, u) :: kvs, h => by
    obtain ⟨h1, h2⟩ := Bool.and_eq_true_iff.mp (show ((lkS y (kvs.map fun q => keyPV q.1) (kvs.map fun q => keyPV q.1)).isNone && nodupS (kvs.map fun q => keyPV q.1)) = true from h)
    refine List.nodup_cons.mpr ⟨fun hm => ?_, nodupS_ok h2⟩
    obtain ⟨q, hq, e⟩ := List.mem_map.mp hm
    refine lkS_none (z := y) rfl (Option.isNone_iff_eq_none.mp h1) y ?_ rfl
    refine List.mem_map.mpr ⟨q, hq, ?_⟩
    have e : q.1 = Sum.inr y := e
    rw [e]
    rfl
theorem put_ok {G : Hp} {z : Str} {p : PV} {v : V} (hp : Rep F G p v) : ∀ {kvs : List (Key × V)} {vs : List PV}, (kvs.map (·.1)).Nodup → Reps F G vs (kvs.map (·.2)) →
    putSk z (kvs.map fun q => keyPV q.1) = (putK kvs (Sum.inr z) v).map (fun q => keyPV q.1) ∧ Reps F G (putSv z p (kvs.map fun q => keyPV q.1) vs) ((putK kvs (Sum.inr z) v).map (·.2))
  | [], _, _, .nil => ⟨rfl, .cons hp .nil⟩
  | (y, u) :: kvs, _, hn, .cons (p := q) (ps := qs) h r => by
    rw [putK_cons hn]
    obtain ⟨h1, h2⟩ := put_ok (z := z) hp (List.nodup_cons.mp hn).2 r
    cases y with
    | inl i =>
      rw [if_neg (by intro h; cases h)]
      exact ⟨congrArg (PV.int i :: ·) h1, .cons h h2⟩
    | inr y =>
      by_cases c : y = z
      · subst c
        rw [if_pos rfl]
        refine ⟨?_, ?_⟩
        · show (if y = y then PV.str y :: kvs.map (fun q => keyPV q.1) else _) = _
          rw [if_pos rfl]
          rfl
        · show Reps F G (if y = y then p :: qs else _) _
          rw [if_pos rfl]
          exact .cons hp r
      · rw [if_neg (by intro h; cases h; exact c rfl)]
        refine ⟨?_, ?_⟩
        · show (if y = z then _ else PV.str y :: putSk z (kvs.map fun q => keyPV q.1)) = _
          rw [if_neg c]
          exact congrArg (PV.str y :: ·) h1
        · show Reps F G (if y = z then _ else q :: putSv z p (kvs.map fun q => keyPV q.1) qs) _
          rw [if_neg c]
          exact .cons h h2
def isDkM (ρ : Rho) (i : Nat) : Bool := match slotM ρ i with
  | some (.dks _ _) => true
  | _ => false
theorem dkM_at {ρ : Rho} {i : Nat} (h : isDkM ρ i = true) : ∃ ks vs, slotM ρ i = some (.dks ks vs) := by
  unfold isDkM at h
  split at h
  · rename_i ks vs q
    exact ⟨ks, vs, q⟩
  · cases h
theorem own_dk {G H : Hp} {p : Addr} {ks vs : List PV} (h : Own F G H p (.dks ks vs)) : ∃ kvs : List (Key × V), H p = some (.dK kvs) ∧ ks = kvs.map (fun q => keyPV q.1) ∧ Reps F G vs (kvs.map (·.2)) := by
  cases h with
  | dK h q r => exact ⟨_, h, q, r⟩
def putDk (c : PV) (k y : PV) : Option PV := match c, k with
  | .dks ks vs, .str z => if ks.length < LIM ∧ nodupS ks = true then some (.dks (putSk z ks) (putSv z y ks vs)) else none
  | _, _ => none
/-- x[k] = v -/
def sPutS (i : Nat) (dk dv : DE) : DS := fun ρ => (dv ρ).toOut fun y ρ => if isDkM ρ i = true then (dk ρ).toOut fun k ρ => (match slotM ρ i with
    | some c => (match putDk c k y with
      | some c' => .nx (putM ρ i c')
      | none => .stuck)
    | none => .stuck) else .stuck
theorem st_putS {i : Nat} {x : Str} {dk dv : DE} {p1 p2 : Pos} {k : Expr} (hu : X.A.units + 1 < cLine) (hv : PE X (.Name x p1) (tVar i)) (hk : PE X k (tE F io W dk)) (h : PE X e (tE F io W dv)) (hs : swapsWith e (some (.Subscript (.Name x p1) k p2)) pos.line X.env = pure false := by rfl) :
    PS X (.Assign [.Subscript (.Name x p1) k p2] e pos) (tS F io W (sPutS i dk dv)) := by
  refine (ps_dput hu hv hk h hs).imp fun D σ H ⟨G, Fr, ρ, S, q⟩ => ?_
  refine tD.stepS S q fun v H1 G1 ρ1 y e1 S1 r1 q1 => ?_
  by_cases l : isDkM ρ1 i = true
  · rw [if_pos l] at q1
    obtain ⟨ks0, vs0, em⟩ := dkM_at l
    obtain ⟨p, h1, h2, h3, h4, _⟩ := slotM_at S1 em
    refine ⟨.ref p, h1, tD.stepS S1 q1 fun u H2 G2 ρ2 kk e2 S2 r2 q2 => ?_⟩
    cases em1 : slotM ρ2 i with
    | none => rw [em1] at q2; exact q2.elim
    | some c =>
      rw [em1] at q2
      have q2 : PostS F io W Fr G2 D (match putDk c kk y with
        | some c' => .nx (putM ρ2 i c')
        | none => .stuck) := q2
      cases ec : putDk c kk y with
      | none => rw [ec] at q2; exact q2.elim
      | some c' =>
        rw [ec] at q2
        cases c <;> first | (exfalso; cases ec; done) | skip
        case dks ks vs =>
          cases r2 <;> first | (exfalso; cases ec; done) | skip
          case str z =>
            obtain ⟨⟨l1, l2⟩, rfl⟩ := ite_some ec
            obtain ⟨p', k1, k2, k3, k4, k5⟩ := slotM_at S2 em1
            rw [h1] at k1
            cases k1
            obtain ⟨kvs, g1, rfl, g3⟩ := own_dk k4
            obtain ⟨w1, w2⟩ := put_ok (z := z) (r1.same e2) (nodupS_ok l2) g3
            refine ⟨p, _, rfl, DPut.k (k := Sum.inr z) g1 ?_, PostS.next q2 (k5 _ _ (.dK upd_same w1 w2))⟩
            rw [List.length_map] at l1
            exact Nat.lt_of_lt_of_le l1 (by decide)
  · rw [if_neg l] at q1
    exact q1.elim
/-! ### a dict of one's own handed to a def that only reads it -/
mutual
def noD : PV → Bool
  | .tup xs => noDs xs
  | .lst xs => noDs xs
  | .ins _ xs => noDs xs
  | .dct _ _ => false
  | .dks _ _ => false
  | _ => true
def noDs : List PV → Bool
  | [] => true
  | x :: xs => noD x && noDs xs
end
def cut (G : Hp) (a : Addr) : Hp := fun b => if b = a then none else G b
section
variable {G : Hp} {q : Addr} {u : HO}
theorem cut_at {b : Addr} {o : HO} (hq : G q = some u) (h : G b = some o) (n : o ≠ u) : cut G q b = some o := by
  unfold cut
  rw [if_neg]
  · exact h
  · intro e
    rw [e, hq] at h
    exact n (Option.some.inj h).symm
mutual
theorem Rep.cut (hq : G q = some u) (h1 : ∀ xs, HO.tup xs ≠ u) (h2 : ∀ xs, HO.lst xs ≠ u) (h3 : ∀ c d fs, HO.ins c d fs ≠ u) (h4 : ∀ o v, HO.frz o v ≠ u) : ∀ {p : PV} {v : V}, Rep F G p v → noD p = true → Rep F (cut G q) p v
  | _, _, .non, _ => .non
  | _, _, .bl b, _ => .bl b
  | _, _, .int i, _ => .int i
  | _, _, .str x, _ => .str x
  | _, _, .tup h r, d => by
    refine .tup ?_ (Reps.cut hq h1 h2 h3 h4 r d)
    rcases h with (h | ⟨o, h⟩) | h
    · exact .inl (.inl (cut_at hq h (h1 _)))
    · exact .inl (.inr ⟨o, cut_at hq h (h4 _ _)⟩)
    · exact .inr h
  | _, _, .lst h r, d => .lst (cut_at hq h (h2 _)) (Reps.cut hq h1 h2 h3 h4 r d)
  | _, _, .scr h, _ => by
    refine .scr ?_
    rcases h with (h | ⟨o, h⟩) | h
    · exact .inl (.inl (cut_at hq h (h2 _)))
    · exact .inl (.inr ⟨o, cut_at hq h (h4 _ _)⟩)
    · exact .inr h
  | _, _, .dK h k r, d => by cases d
  | _, _, .dT h k n u r, d => by cases d
  | _, _, .ins h k r, d => .ins (cut_at hq h (h3 _ _ _)) k (Reps.cut hq h1 h2 h3 h4 r d)
theorem Reps.cut (hq : G q = some u) (h1 : ∀ xs, HO.tup xs ≠ u) (h2 : ∀ xs, HO.lst xs ≠ u) (h3 : ∀ c d fs, HO.ins c d fs ≠ u) (h4 : ∀ o v, HO.frz o v ≠ u) : ∀ {ps : List PV} {vs : List V}, Reps F G ps vs → noDs ps = true → Reps F (cut G q) ps vs
  | _, _, .nil, _ => .nil
  | _, _, .cons h r, d => by
    have d2 := Bool.and_eq_true_iff.mp (show (noD _ && noDs _) = true from d)
    exact .cons (Rep.cut hq h1 h2 h3 h4 h d2.1) (Reps.cut hq h1 h2 h3 h4 r d2.2)
end
end
theorem grow_cut {G H G' H' : Hp} {q : Addr} {o : HO} (nq : G q = none) (g : Grow (upd G q o) H G' H') : Grow G H (cut G' q) H' := by
  refine ⟨g.all, fun b u h => ?_, fun b u h => ?_, fun b u h h0 => ?_⟩
  · unfold cut
    have n : b ≠ q := ne_of_none h nq
    rw [if_neg n]
    exact g.gle b u (by rw [upd_ne n]; exact h)
  · unfold cut at h
    split at h
    · cases h
    · exact g.sub b u h
  · unfold cut at h
    split at h
    · cases h
    · rename_i n
      exact g.new b u h (by rw [upd_ne n]; exact h0)
def dCallB (i : Nat) (φ : List PV → FR) (d : DE) : DE := fun ρ => (d ρ).bind fun z ρ => if isDkM ρ i = true then (match slotM ρ i with
    | some c => (match φ [z, c] with
      | .ok r => if noD r = true then .ok r ρ else .stuck
      | _ => .stuck)
    | none => .stuck) else .stuck
theorem pcb {k i : Nat} {φ : List PV → FR} {x y : Str} {p p1 : Pos} {d : DE} (h : FnH X.prog X.w X.K X.mg X.base k x (spP F 2 φ)) (tk : Takes X W) (hr : Room k X.A) (hg : Gl X x) (hv : PE X (.Name y p1) (tVar i)) (ha : PE X e (tE F io W d)) (hdb : (x == ("__debug__" : Str)) = false := by decide)
    (he : starEach [e, .Name y p1] X.env = (false, eval e X.env) :: starEach [.Name y p1] X.env := by rfl) (he2 : starEach [.Name y p1] X.env = (false, eval (.Name y p1) X.env) :: starEach [] X.env := by rfl) (hpl : (backTo pos (starEach [.Name y p1] X.env)).any (·.1) = false := by rfl) :
    PE X (.Call (.Name x p) [e, .Name y p1] [] pos) (tE F io W (dCallB i φ d)) := by
  obtain ⟨f, fd, ps, hm, hk, hb, Gf⟩ := h
  refine (pe_callS (E := fun σ => WE W σ) Gf hr hg hm hk hb (fun σ => passAt tk σ) (pa_cons ha (pa_cons hv pa_nil he2) he) hdb he hpl).imp fun σ H Q ⟨G, Fr, ρ, S, q⟩ => ?_
  refine tD.step S q fun v H1 G1 ρ1 z e1 S1 r1 q1 => ?_
  by_cases l : isDkM ρ1 i = true
  · rw [if_pos l] at q1
    obtain ⟨ks, vs, em⟩ := dkM_at l
    obtain ⟨a, h1, h2, h3, h4, _⟩ := slotM_at S1 em
    refine ⟨.ref a, h1, ?_⟩
    rw [em] at q1
    obtain ⟨kvs, g1, g2, g3⟩ := own_dk h4
    have sD : Same G1 (upd G1 a (.dK kvs)) := same_upd h2
    have sub : Same (upd G1 a (.dK kvs)) H1 := fun b u h => by
      by_cases c : b = a
      · subst c
        rw [upd_same] at h
        cases h
        exact g1
      · rw [upd_ne c] at h
        exact S1.sub b u h
    refine ⟨rfl, upd G1 a (.dK kvs), [z, .dks ks vs], sub, .cons (r1.same sD) (.cons (h4.frozen g1 sD) .nil), ?_⟩
    have q1 : Post (Rep F) F io W Fr G1 σ Q (match φ [z, .dks ks vs] with
      | .ok r => if noD r = true then .ok r ρ1 else .stuck
      | _ => .stuck) := q1
    cases ef : φ [z, .dks ks vs] with
    | ok r =>
      rw [ef] at q1
      intro v' G' H' g rr
      by_cases nd : noD r = true
      · have q1 : Post (Rep F) F io W Fr G1 σ Q (if noD r = true then .ok r ρ1 else .stuck) := q1
        rw [if_pos nd] at q1
        have gc := grow_cut h2 g
        exact q1 v' _ _ gc.gle (S1.grow gc) (rr.cut (g.gle a _ upd_same) (fun _ h => by cases h) (fun _ h => by cases h) (fun _ _ _ h => by cases h) (fun _ _ h => by cases h) nd)
      · have q1 : Post (Rep F) F io W Fr G1 σ Q (if noD r = true then .ok r ρ1 else .stuck) := q1
        rw [if_neg nd] at q1
        exact q1.elim
    | exc c as => rw [ef] at q1; exact q1.elim
    | stuck => rw [ef] at q1; exact q1.elim
  · rw [if_neg l] at q1
    exact q1.elim
end
end Pl

set_option maxHeartbeats 4000000
/-! P12: the error with a field (BadLine.line): made, raised, caught (skeleton 42 turned to this text). -/
namespace PySem
namespace LowLn
open PySem.W PySem.Calls PyProof.Rows PySem.HandSPX
/-! ### the text of __init__ -/
def iA (p1 p2 : Pos) : Arguments := { posonlyargs := [], args := [{ arg := "self", annotation := none, pos := p1 }, { arg := "line", annotation := none, pos := p2 }], vararg := none, kwonlyargs := [], kw_defaults := [], kwarg := none, defaults := [] }
def iB (q1 q2 q3 q4 : Pos) : List Stmt := [.Assign [.Attribute (.Name "self" q1) "line" q2] (.Name "line" q3) q4]
def iS : Scope := { kind := .function, names := [(PySem.Str.ofString "self", .local), (PySem.Str.ofString "line", .local)], isGenerator := false, isCoroutine := false, more := [] }
/-- what the written part says of Low, at C, and of its __init__, at fI -/
structure LowTxt (K : Frag) (mg : Str → Option Value) (C fI : Addr) : Prop where
  gC : mg "BadLine" = some (.ref C)
  cls : ∃ nm q N bs bm sn sub ab col dd k0 k1 k2 k3 k5, K.lookup C = some (excClassObj nm q C N bs bm true sn sub ab col dd k0 k1 k2 k3 k5 "ValueError.__new__") ∧ refsVE bm = true
  sa : findIn K (.ref C) "__setattr__" = some (some (.builtin "object.__setattr__"))
  ga : findIn K (.ref C) "__getattribute__" = some (some (.builtin "BaseException.__getattribute__"))
  gg : findIn K (.ref C) "__getattr__" = some none
  noN : findIn K (.ref C) "line" = some none
  iC : findIn K (.ref C) "__init__" = some (some (.ref fI))
  tC : typeIn K (.ref fI) = some (.type "function")
  kC : keepIn K (.ref C) = true
  exC : subIn K (.ref C) (.type "BaseException") = some true
  tyC : typeIn K (.ref C) = some (.type "type")
  hdC : hasDictIn K C = true
  te : exmOne K (.ref C) (.ref C) = some true
  fn : ∃ (kV oc : Value) (od : Option Addr) (doc pm : Value) (an : Option Addr) (cdv ct : Value) (osl : Array (Option Value)) (p1 p2 q1 q2 q3 q4 : Pos),
    K.lookup fI = some ⟨oc, od, .func (fnOf "__init__" "BadLine.__init__" (iA p1 p2) (iB q1 q2 q3 q4) iS .none kV doc pm an cdv ct), osl⟩ ∧ codeIn K cdv "BadLine.__init__" = true
theorem one_size (v : Value) : [v].length ≤ sizeLine := by
  rw [sizeLine_eq]
  exact (by decide : 1 ≤ 16777216)
theorem kept_but {K : Frag} {h h' : Heap} {x : Addr} (X : K.In h) (hx : K.lookup x = none) (k : ∀ b o, b ≠ x → h.get? b = some o → h'.get? b = some o) : K.In h' := fun a o e =>
  k a o (fun z => by rw [z, hx] at e; cases e) (X a o e)
theorem ldC {M : Model} {s : Shared} {name : Str} {scope : Scope} {L a : Addr} {cd : Value} {m : Str → Option Value} {x : Str} {pos : Pos} {v : Value} {Q : Value → Shared → Prop} {A : Around} {E : Value → Shared → Prop} (hn : s.heap.Ns L m) (hv : m x = some v) (h : Q v s)
    (hk : scope.kind = .function := by rfl) (hl : (envOfC name scope L a cd).kindOf x = some .local := by rfl) (hd : (x == ("__debug__" : Str)) = false := by decide) :
    wpAny M A (eval (.Name x pos) (envOfC name scope L a cd)) Q E s := wpAny_Name (wpAny_loadName_local hk hl hn hv h) hd
/-- what __init__ leaves of a fresh exception at x -/
structure InitEnd (h h' : Heap) (x C dx t1 : Addr) (v : Value) : Prop where
  keep : ∀ b o, b ≠ x → h.get? b = some o → h'.get? b = some o
  obj : h'.get? x = some { cls := .ref C, dict := some dx, data := .fields #[.ref t1, .none, .none, .none, .bool false, .none] }
  dbig : h.objs.size ≤ dx
  dne : dx ≠ x
  ns : h'.Ns1 dx (fun y => if y = "line" then some v else none)
/-- a made Low -/
structure OwnMade (h h' : Heap) (e C d : Addr) (v : Value) : Prop where
  keep : ∀ b o, h.get? b = some o → h'.get? b = some o
  new : h.objs.size ≤ e
  obj : ∃ oe vs, h'.get? e = some oe ∧ oe.cls = .ref C ∧ oe.dict = some d ∧ oe.data = .fields vs ∧ vs[1]? = some .none
  dbig : h.objs.size ≤ d
  dne : d ≠ e
  ns : h'.Ns1 d (fun y => if y = "line" then some v else none)
section
variable {prog : Program} {w : World} {A : Around} {E : Value → Shared → Prop} {R : Result → Shared → Prop} {s : Shared} {K : Frag} {mg : Str → Option Value} {C fI : Addr}
theorem low_init (T : LowTxt K mg C fI) {x t0 : Addr} {v : Value} (X : K.In s.heap) (hlim : s.heap.NoLimit) (hx : s.heap.get? x = some (excO C t0)) (hnx : K.lookup x = none) (hroom : A.depth < recursionLimit)
    (hq : ∀ h' tk dx, InitEnd s.heap h' x C dx t0 v → R (.ok (.ret .none)) { s with heap := h', toks := tk }) :
    codeAny (model prog w) A (.call (.ref fI) ⟨[.ref x, v], []⟩) R s := by
  obtain ⟨kV, oc, od, doc, pm, an, cdv, ct, osl, p1, p2, q1, q2, q3, q4, ho, hcd⟩ := T.fn
  obtain ⟨nm, q, N, bs, bm, sn, sub, ab, col, dd, k0, k1, k2, k3, k5, hC, hbm⟩ := T.cls
  have hcl : clsIn K C = some { name := nm, bases := bs, mro := .ref C :: bm, ns := N, qualname := q, hasDict := true, slotNames := sn, subclasses := sub, abstract := ab, collection := col, hasDel := false } := by unfold clsIn; rw [hC] <;> rfl
  refine Att.call_fn (binds := [("self", .ref x), ("line", v)]) X hlim ho hcd hroom (BindsTo.of_eq (by first | rfl | with_unfolding_all rfl)) (by first | rfl | decide | with_unfolding_all rfl) (fun s₁ IC => ?_) rfl rfl rfl
  obtain ⟨h₁, tk₁, rfl⟩ := IC.toInCall.same
  have k : ∀ b o, s.heap.get? b = some o → h₁.get? b = some o := IC.toInCall.keep
  have hn := IC.toInCall.ns
  have hxL : s.heap.objs.size ≠ x := Nat.ne_of_gt (Heap.lt_size hx)
  have X₁ : K.In h₁ := X.keeps k
  have hx₁ := k _ _ hx
  -- self.line = line
  show wpAny _ _ (execs _ _) _ _ _
  refine wpAny_execs_cons (plainObj_wpAny_Assign_Attribute ?_)
  refine ldC (v := v) hn (by first | rfl | with_unfolding_all rfl | kernel_rfl) (ldC (v := .ref x) hn (by first | rfl | with_unfolding_all rfl | kernel_rfl) ?_)
  refine set_plain X₁ (ox := excO C t0) (od := none) ⟨hx₁, rfl, rfl, trivial⟩ T.sa ?_
  refine exc_osa X₁ hx₁ hcl (show refsVE (.ref C :: bm) = true from hbm) rfl T.noN (fun h₃ tk₃ dx k₃ dn dne hx₃ hn₃ => ?_)
  show wpAny _ _ (execs _ _) _ _ _
  have z : s.heap.objs.size < h₁.objs.size := hn.lt
  exact wpAny_execs_nil (hq h₃ tk₃ dx ⟨fun b o hb e => k₃ b o hb (k b o e), hx₃, Nat.le_of_lt (Nat.lt_of_lt_of_le z dn), dne, hn₃⟩)
theorem low_made (T : LowTxt K mg C fI) {v : Value} (X : K.In s.heap) (hlim : s.heap.NoLimit) (hroom : A.depth + 1 < recursionLimit)
    (hq : ∀ h' tk e d, OwnMade s.heap h' e C d v → R (.ok (.ret (.ref e))) { s with heap := h', toks := tk }) :
    codeAny (model prog w) A (.call (.ref C) ⟨[v], []⟩) R s := by
  obtain ⟨nm, q, N, bs, bm, sn, sub, ab, col, dd, k0, k1, k2, k3, k5, hC, hbm⟩ := T.cls
  obtain ⟨hp, g, dr, tk, os⟩ := s
  have k : ∀ b o, hp.get? b = some o → ((hp.push (kdv_tup [v])).push (excO C hp.objs.size)).get? b = some o := fun b o e => Heap.get?_push_of_some _ (Heap.get?_push_of_some _ e)
  have hget : ((hp.push (kdv_tup [v])).push (excO C hp.objs.size)).get? (hp.objs.size + 1) = some (excO C hp.objs.size) := by heap_get
  have hnx : K.lookup (hp.objs.size + 1) = none := by
    cases e : K.lookup (hp.objs.size + 1) with
    | none => rfl
    | some o =>
      have z : hp.get? (hp.objs.size + 1) = some o := X _ _ e
      exact absurd (Nat.lt_of_succ_lt (Heap.lt_size z)) (Nat.lt_irrefl _)
  refine call_own F.excBase_ValueError (fun X => refsVE_contains X bm hbm) (X _ _ hC) (looks_findIn X T.iC) (fun self => bind_fn X self T.tC) (one_size v) ?_
  refine low_init (s := ⟨(hp.push (kdv_tup [v])).push (excO C hp.objs.size), g, dr, tk, os⟩) T (X.keeps k) (hlim.keeps k) hget hnx ?_ fun h' tk' dx ⟨k', hx, dn, dne, hns⟩ => ?_
  · show A.depth + 1 < recursionLimit
    exact hroom
  · have old : ∀ b o, hp.get? b = some o → h'.get? b = some o := fun b o e => k' b o (Nat.ne_of_lt (Nat.lt_succ_of_lt (Heap.lt_size e))) (k b o e)
    have z : hp.objs.size + 1 + 1 ≤ dx := by
      first
        | (simpa only [Heap.size_push] using dn)
        | exact dn
        | (have q := dn; rw [Heap.size_push, Heap.size_push] at q; exact q)
    exact ⟨rfl, hq h' tk' (hp.objs.size + 1) dx ⟨old, Nat.le_succ _, ⟨_, _, hx, rfl, rfl, rfl, rfl⟩, Nat.le_trans (Nat.le_trans (Nat.le_succ _) (Nat.le_succ _)) z, dne, hns⟩⟩
end
end LowLn
end PySem
namespace L2
open PySem PySem.Spec PyProof.Rows
theorem relO_low {v : V} {v' : Value} (r : RelV v v') (f : Str) : RelO (List.lookup f [(("line" : Str), v)]) (if f = "line" then some v' else none) := by
  by_cases hw : f = "line"
  · subst hw
    rw [if_pos rfl]
    have q : List.lookup ("line" : Str) [(("line" : Str), v)] = some v := by simp [List.lookup]
    rw [q]
    exact r
  · rw [if_neg hw]
    have qw : (f == ("line" : Str)) = false := by simpa using hw
    have q2 : List.lookup f [(("line" : Str), v)] = none := by simp [List.lookup, qw]
    rw [q2]
    trivial
section
variable {X : Cx} {C fI : Addr}
/-- Low(e) -/
def tMkLow (C : Addr) (ta : TA) : St → Hp → XK → Prop := fun σ H Q => ta σ H fun vs H1 => ∃ v, vs = [v] ∧ ∀ d, H1 d = none → Q (.ref C) (some d) (upd H1 d (.xd [(("line" : Str), v)]))
theorem pmk_low {a : Expr} {ta : TA} {p pos : Pos} {k : Nat} (T : PySem.LowLn.LowTxt X.K X.mg C fI) (hr : Room k X.A) (ha : PA X [a] ta) (hg : Gl X "BadLine" := by rfl)
    (he : starEach (a :: []) X.env = (false, eval a X.env) :: starEach [] X.env := by rfl) (hpl : (backTo pos (starEach [] X.env)).any (·.1) = false := by rfl) :
    PMk X (.Call (.Name "BadLine" p) [a] [] pos) (tMkLow C ta) := by
  intro pins s σ H Q I h
  refine wpAny_Call_Name_kw (ld_glob I hg T.gC ?_)
  refine PySem.W.callWith_K (h₀ := X.base) I.ok.mod.kin T.kC (thn (ha.run pos pins s σ H _ I h) fun us s1 hh => ?_) he hpl
  obtain ⟨vs, H1, I1, r1, v, ev, q1⟩ := hh
  subst ev
  refine ⟨I1.kIn, ?_⟩
  cases r1 with
  | cons rv rn =>
    rename_i v' us'
    cases rn
    show wpAny _ _ (call (.ref C) [v']) _ _ _
    have hlim := I1.nolimit
    obtain ⟨hp, g, dr, tk, os⟩ := s1
    refine wpAny_call (PySem.LowLn.low_made T I1.kIn hlim (by have := hr.dp; omega) fun h' tk' e d M => ?_)
    show MkP X pins σ Q (.ref e) ⟨h', g, dr, tk', os⟩
    obtain ⟨oe, fv, hoe, hc, hd, hdat, h1⟩ := M.obj
    have hns := M.ns
    obtain ⟨G', g1, g2⟩ := restrict h' fun b => decide (b ≠ e)
    have gk : ∀ b, b ≠ e → G'.get? b = h'.get? b := fun b hb => g1 b (decide_eq_true hb)
    have ge : G'.get? e = none := g2 e (by simp)
    have old : ∀ b o, hp.get? b = some o → G'.get? b = some o := fun b o q => (gk b (Nat.ne_of_lt (Nat.lt_of_lt_of_le (Heap.lt_size q) M.new))).trans (M.keep b o q)
    have ob : ObjOk X.prog X.w (upd H1 d (.xd [(("line" : Str), v)])) G' d (.xd [(("line" : Str), v)]) :=
      ⟨_, hns.at (fun o q => (gk d M.dne).trans q), fun f => relO_low rv f⟩
    have J : Inv X pins σ (upd H1 d (.xd [(("line" : Str), v)])) ⟨G', g, dr, tk', os⟩ := I1.laid (t' := tk') old M.dbig ob
    refine ⟨e, oe, fv, ⟨G', g, dr, tk', os⟩, _, .ref C, some d, rfl, J, fun b o q => ?_, ge, hoe, ⟨hc, hd⟩, hdat, h1, ?_, rfl, I1.bare, raises_own T.exC T.tyC, q1 d (I1.hok.fresh M.dbig)⟩
    · by_cases hb : b = e
      · have q' : G'.get? b = some o := q
        rw [hb, ge] at q'; cases q'
      · exact (gk b hb).symm.trans q
    · rw [upd_ne (Ne.symm M.dne)]
      exact I1.hok.fresh M.new
/-- raise Low(e) -/
def tRaiseLow (C : Addr) (W : WX) (ta : TA) : TS := fun _ σ H => tMkLow C ta σ H fun cls d H' => W cls d σ H'
theorem ps_raiseLow {a : Expr} {ta : TA} {W : WX} {p pos pos2 : Pos} {k : Nat} (hc : X.calm = true) (T : PySem.LowLn.LowTxt X.K X.mg C fI) (hr : Room k X.A) (tk : Takes X W) (ha : PA X [a] ta) (hg : Gl X "BadLine" := by rfl)
    (he : starEach (a :: []) X.env = (false, eval a X.env) :: starEach [] X.env := by rfl) (hpl : (backTo pos (starEach [] X.env)).any (·.1) = false := by rfl) :
    PS X (.Raise (some (.Call (.Name "BadLine" p) [a] [] pos)) none pos2) (tRaiseLow C W ta) := ps_raise hc tk (pmk_low T hr ha hg he hpl)
/-- low.by, low the exception that the suite holds (at a; its class cls, its dict d) -/
def tByLow (C : Addr) (a : Addr) (cls : Value) (d : Option Addr) (te : TE) : TE := fun σ H Q => te σ H fun x H1 => x = .ref a ∧ cls = .ref C ∧ ∃ (dd : Addr) (v : V), d = some dd ∧ H1 dd = some (.xd [(("line" : Str), v)]) ∧ Q v H1
theorem pe_byLow {a : Addr} {oe : Obj} {cls : Value} {d : Option Addr} {pn : List (Addr × Obj)} {e : Expr} {te : TE} {pos : Pos} (T : PySem.LowLn.LowTxt X.K X.mg C fI) (hz : Zc cls d oe) (hf : ∃ vs, oe.data = .fields vs) (he : PE (X.suite a ((a, oe) :: pn)) e te)
    (hb : attributeBase e "line" X.env (eval e X.env) = eval e X.env := by rfl) :
    PE (X.suite a ((a, oe) :: pn)) (.Attribute e "line" pos) (tByLow C a cls d te) := by
  refine ⟨fun pins s σ H Q I h => ?_⟩
  refine attr_of hb (thn (he.run pins s σ H _ I h) fun u s1 hh => ?_)
  obtain ⟨x, H1, I1, rx, ex, ec, dd, v, ed, ea, q⟩ := hh
  subst ex
  obtain rfl : u = Value.ref a := rx
  subst ec
  subst ed
  obtain ⟨ha, _⟩ := I1.pin (a, oe) (List.mem_append_left _ List.mem_cons_self)
  obtain ⟨vs, hd⟩ := hf
  have hx : ObjOk X.prog X.w H1 s1.heap dd (.xd [(("line" : Str), v)]) := I1.hok dd _ ea
  obtain ⟨mA, hns, hr⟩ := hx
  obtain ⟨od, ho, hl⟩ := lookIn_ns hns
  have l : List.lookup ("line" : Str) [(("line" : Str), v)] = some v := by simp [List.lookup]
  obtain ⟨u, hu, ru⟩ := RelO.some_of (v := v) (o := mA "line") (by rw [← l]; exact hr "line")
  have J : PySem.W.InstAt s1.heap a oe C (some od) := ⟨ha, hz.1, by unfold PySem.W.notCls; rw [hd] <;> rfl, by rw [hz.2]; exact ho⟩
  exact HandSPX.exc_get I1.kIn J T.ga T.gg T.exC (PySem.W.findObj_own T.hdC T.noN rfl (by rw [hl, hu])) (handed_of ru) ⟨v, H1, I1.tok _, ru, q⟩
end
end L2
namespace Pl
open PySem PySem.Spec PyProof.Rows L2 RZ
def lowC (K : PySem.W.Frag) (C : Addr) : Bool := match K.lookup C with
  | some ⟨.type "type", _, .cls cd, sl⟩ => (match cd.mro, sl.toList with
    | .ref C' :: bm, [_, _, _, _, some (.builtin n), _] => C' == C && (n == "ValueError.__new__" && (!cd.hasDel && (cd.hasDict && PySem.HandSPX.refsVE bm)))
    | _, _ => false)
  | _ => false
theorem lowC_ok {K : PySem.W.Frag} {C : Addr} (q : lowC K C = true) : ∃ nm q N bs bm sn sub ab col dd k0 k1 k2 k3 k5, K.lookup C = some (excClassObj nm q C N bs bm true sn sub ab col dd k0 k1 k2 k3 k5 "ValueError.__new__") ∧ PySem.HandSPX.refsVE bm = true := by
  unfold lowC at q
  split at q
  · rename_i dd cd sl ho
    split at q
    · rename_i C' bm k0 k1 k2 k3 n k5 hm hs
      simp only [Bool.and_eq_true, beq_iff_eq, Bool.not_eq_true'] at q
      obtain ⟨rfl, rfl, hdel, hdc, hb⟩ := q
      obtain ⟨nm, bs, mro, ns, qn, hd, sn, sub, ab, col, del⟩ := cd
      dsimp only at hm hdel hdc
      subst hm hdel hdc
      have hsl : sl = #[k0, k1, k2, k3, some (.builtin "ValueError.__new__"), k5] := by
        rw [← Array.toArray_toList (xs := sl), hs]
      subst hsl
      exact ⟨nm, qn, ns, bs, bm, sn, sub, ab, col, dd, k0, k1, k2, k3, k5, ho, hb⟩
    · cases q
  · cases q
/-- the facts of BadLine, as one check -/
def lineB (K : PySem.W.Frag) : Bool := lowC K (He.ga K "BadLine") && (decide (PySem.W.findIn K (.ref (He.ga K "BadLine")) "__setattr__" = some (some (.builtin "object.__setattr__"))) &&
  (decide (PySem.W.findIn K (.ref (He.ga K "BadLine")) "__getattribute__" = some (some (.builtin "BaseException.__getattribute__"))) && (decide (PySem.W.findIn K (.ref (He.ga K "BadLine")) "__getattr__" = some none) &&
  (decide (PySem.W.findIn K (.ref (He.ga K "BadLine")) "line" = some none) && (decide (PySem.W.findIn K (.ref (He.ga K "BadLine")) "__init__" = some (some (.ref (He.ma K (He.ga K "BadLine") "__init__")))) &&
  (decide (PySem.W.typeIn K (.ref (He.ma K (He.ga K "BadLine") "__init__")) = some (.type "function")) && (PySem.W.keepIn K (.ref (He.ga K "BadLine")) && (decide (PySem.W.subIn K (.ref (He.ga K "BadLine")) (.type "BaseException") = some true) &&
  (decide (PySem.W.typeIn K (.ref (He.ga K "BadLine")) = some (.type "type")) && (PySem.W.hasDictIn K (He.ga K "BadLine") && decide (PySem.W.exmOne K (.ref (He.ga K "BadLine")) (.ref (He.ga K "BadLine")) = some true)))))))))))
theorem low_of {K : PySem.W.Frag} {mg : Str → Option Value} {fd : FuncData} {st : Stmt} {p1 p2 q1 q2 q3 q4 : Pos} (g : mg "BadLine" = some (.ref (He.ga K "BadLine"))) (c : lineB K = true)
    (FD : FunD K "__init__" "BadLine.__init__" (defArgs st) (defBody st) (defScope st) [] [] (He.ma K (He.ga K "BadLine") "__init__") fd)
    (e1 : defArgs st = PySem.LowLn.iA p1 p2) (e2 : defBody st = PySem.LowLn.iB q1 q2 q3 q4) (e3 : defScope st = PySem.LowLn.iS) : PySem.LowLn.LowTxt K mg (He.ga K "BadLine") (He.ma K (He.ga K "BadLine") "__init__") := by
  unfold lineB at c
  simp only [Bool.and_eq_true, decide_eq_true_eq] at c
  obtain ⟨c1, c2, c3, c4, c5, c6, c7, c8, c9, c10, c11, c12⟩ := c
  refine ⟨g, lowC_ok c1, c2, c3, c4, c5, c6, c7, c8, c9, c10, c11, c12, ?_⟩
  obtain ⟨oc, od, dV, kV, doc, pm, an, cdv, ct, osl, e, lk, hcd, h1, h2⟩ := FD.ex
  rw [e1, e2, e3] at e
  subst e
  rcases h1 with ⟨_, rfl⟩ | ⟨h, _⟩
  · exact ⟨kV, oc, od, doc, pm, an, cdv, ct, osl, p1, p2, q1, q2, q3, q4, lk, hcd⟩
  · exact absurd rfl h
section
variable {X : Cx} {F : Fx} {io : Option Addr} {W : WX} {a b o e : Expr} {es : List Expr} {pos : Pos}
/-! ### raise BadLine(e) -/
def sRaiseA (c : Nat) (d : DE) : DS := fun ρ => (d ρ).toOut fun x ρ => .exc c [x] ρ
theorem st_raiseA {fI : Addr} {c k : Nat} {d : DE} {p pos2 : Pos} (hc : X.calm = true) (hf : F.fld c = ([("line" : Str)])) (T : PySem.LowLn.LowTxt X.K X.mg (F.cls c) fI) (hr : Room k X.A) (tk : Takes X W) (h : PE X a (tE F io W d)) (hg : Gl X "BadLine" := by rfl)
    (he : starEach (a :: []) X.env = (false, eval a X.env) :: starEach [] X.env := by rfl) (hpl : (backTo pos (starEach [] X.env)).any (·.1) = false := by rfl) : PS X (.Raise (some (.Call (.Name "BadLine" p) [a] [] pos)) none pos2) (tS F io W (sRaiseA c d)) := by
  refine (ps_raiseLow hc T hr tk (pa_cons h pa_nil he) hg he hpl).imp fun D σ H ⟨G, Fr, ρ, S, q⟩ => ?_
  refine tD.stepS S q fun v H1 G1 ρ1 x e1 S1 r1 q1 => ?_
  exact ⟨v, rfl, fun dd nd => q1 (some dd) σ G1 _ (Same.refl _) (S1.grow (Grow.new0 S1.sub nd)) ⟨dd, [("line", v)], rfl, upd_same, hf.symm, .cons r1 .nil⟩⟩
/-! ### try: .. except BadLine as e: x = e.line -/
def lineK (c i j : Nat) (c' : Nat) (ρ' : Rho) : List PV → Out
  | [x] => if c' = c ∧ i < ρ'.length then .nx ((ρ'.set j (some (.val x))).set i none) else .stuck
  | _ => .stuck
def sTryL (c i j : Nat) (sub : Nat → Nat → Bool) (n : List Nat) (d : DS) : DS := fun ρ => match d ρ with
  | .exc c' as ρ' => if n.contains c' = true then (if sub c' c = true then lineK c i j c' ρ' as else .exc c' as ρ') else .stuck
  | o => o
theorem StOk.named {G Fr H : Hp} {σ : L2.St} {ρ : Rho} {i : Nat} {w : Option V} (S : StOk F io G Fr H σ ρ) : StOk F io G Fr H (σ.set i w) (ρ.set i none) := S.wipe1
theorem st_tryL {fI : Addr} {c i j : Nat} {sub : Nat → Nat → Bool} {n : List Nat} {x y : Str} {d : DS} {body : List Stmt} {np pos' p1 p2 p3 p4 : Pos} (hK : F.K = X.K) (hf : F.fld c = ([("line" : Str)])) (hij : i ≠ j) (hsub : SubOk F n sub) (hk : n.contains c = true) (T : PySem.LowLn.LowTxt X.K X.mg (F.cls c) fI) (hst : X.stack = X.env :: X.outer) (hfr : X.env.frame = some X.env.locals) (hN : X.N.Nodup) (hi : X.N[i]? = some x) (hln : X.env.kindOf x = some .local)
    (hj : X.N[j]? = some y) (hy : L2.Loc X.env.scope y) (hc : Names X "BadLine" (.ref (F.cls c))) (tk : Takes X W) (hv : ∀ (a : Addr) (oe : Obj) (pn : List (Addr × Obj)), PE (X.suite a ((a, oe) :: pn)) (.Name x p1) (tVar i))
    (hb : ∀ (W : WX) (pn : List (Addr × Obj)) (xe : Value → Shared → Prop), Takes (X.tr pn xe) W → PSs (X.tr pn xe) body (tS F io W d))
    (hsw : swapsWith (.Attribute (.Name x p1) "line" p2) (some (.Name y p3)) p4.line X.env = pure false := by rfl) (hfn : X.fn y = true ∨ X.env.scope.names.lookup y = some .local := by first | exact .inl rfl | exact .inr rfl | assumption) (hab : attributeBase (.Name x p1) "line" X.env (eval (.Name x p1) X.env) = eval (.Name x p1) X.env := by rfl) :
    PS X (.Try body [.ExceptHandler (some (.Name "BadLine" np)) (some x) [.Assign [.Name y p3] (.Attribute (.Name x p1) "line" p2) p4] pos'] [] [] pos) (tS F io W (sTryL c i j sub n d)) := by
  refine (ps_try_as (tb := fun W => tS F io W d) (ts := fun a cls dd => tAsg (tByLow (F.cls c) a cls dd (tVar i)) (gName j)) hst hfr hN hi hln hc tk (fun W pn xe tk _ => hb W pn xe tk) (fun a oe cls dd pn hz hfl => pss_one (ps_set (i := j) hN hj hy (pe_byLow T hz hfl (hv a oe pn) hab) hsw hfn))).imp fun D σ H ⟨G, Fr, ρ, S, q⟩ => ?_
  refine ⟨G, Fr, ρ, S, ?_⟩
  unfold sTryL at q
  cases ed : d ρ with
  | nx ρ1 => rw [ed] at q; exact q
  | rt p ρ1 => rw [ed] at q; exact q
  | stuck => rw [ed] at q; exact q
  | exc c' as ρ1 =>
    rw [ed] at q
    intro dd σ' G' H' e S' xa
    have q : PostS F io W Fr G D (if n.contains c' = true then (if sub c' c = true then lineK c i j c' ρ1 as else .exc c' as ρ1) else .stuck) := q
    by_cases l : n.contains c' = true
    · rw [if_pos l] at q
      refine ⟨sub c' c, by rw [← hK]; exact hsub c' c l hk, fun eb a na => ?_, fun eb => ?_⟩
      · rw [if_pos eb] at q
        cases as with
        | nil => exact q.elim
        | cons x rest =>
          cases rest with
          | cons => exact q.elim
          | nil =>
            have q5 : PostS F io W Fr G D (if c' = c ∧ i < ρ1.length then .nx ((ρ1.set j (some (.val x))).set i none) else .stuck) := q
            by_cases z : c' = c ∧ i < ρ1.length
            · rw [if_pos z] at q5
              obtain ⟨zc, hl⟩ := z
              subst zc
              obtain ⟨p, fs, rfl, hp, hn, r⟩ := xa
              rw [hf] at hn
              cases fs with
              | nil => cases hn
              | cons f0 fs =>
                obtain ⟨g, v⟩ := f0
                cases fs with
                | cons => cases hn
                | nil =>
                  have hg : g = "line" := (List.cons.inj hn).1
                  subst hg
                  cases r with
                  | cons r0 r1 =>
                    have hl2 : i < σ'.length := by rw [← S'.len]; exact hl
                    refine ⟨.ref a, List.getElem?_set_self hl2, rfl, rfl, p, v, rfl, hp, ?_⟩
                    have S2 := (S'.set_val (i := j) r0).wipe1 (i := i) (w := none)
                    have e3 : ((σ'.set i (some (V.ref a))).set j (some v)).set i none = (σ'.set j (some v)).set i none := by
                      rw [List.set_comm _ _ hij, List.set_set]
                    show D.nx (((σ'.set i (some (V.ref a))).set j (some v)).set i none) H'
                    rw [e3]
                    exact q5 _ _ _ e S2
            · rw [if_neg z] at q5
              exact q5.elim
      · rw [if_neg (by rw [eb]; exact Bool.false_ne_true)] at q
        exact q dd σ' G' H' e S' xa
    · rw [if_neg l] at q
      exact q.elim
end
end Pl

set_option maxHeartbeats 4000000
/-! P13: {'a': x, 'b': y}.get(z, w). -/
namespace Pl
open PySem PySem.Spec PyProof.Rows L2 RZ
section
variable {X : Cx} {F : Fx} {io : Option Addr} {W : WX} {a b e : Expr} {es : List Expr} {pos apos cpos : Pos}
def dPickG (ds : List (Str × DE)) (dk dd : DE) : DE := fun ρ => (dVals ds ρ).bind fun kvs ρ => (dk ρ).bind fun k ρ => (dd ρ).bind fun x ρ => match k with
  | .str z => .ok ((kvs.lookup z).getD x) ρ
  | _ => .stuck
theorem valV_prK_none {z : Str} : ∀ {qs : List (Str × PV)} {us : List V}, qs.length = us.length → qs.lookup z = none → valV (prK qs us) (Sum.inr z) = none
  | q :: qs, u :: us, hl, e => by
    have e : (match z == q.1 with
      | true => some q.2
      | false => List.lookup z qs) = none := e
    by_cases c : z = q.1
    · subst c
      rw [beq_self_eq_true] at e
      cases e
    · rw [beq_eq_false_iff_ne.mpr c] at e
      have h1 := valV_prK_none (qs := qs) (us := us) (Nat.succ.inj hl) e
      have n : ¬ (Sum.inr q.1 : Key) = Sum.inr z := fun h => c (Sum.inr.inj h).symm
      exact (valV_neg n).trans h1
  | [], _, _, _ => rfl
  | _ :: _, [], hl, _ => by cases hl
theorem pp_pget {keys : List (Option Expr)} {values : List Expr} {ds : List (Str × DE)} {dk dd : DE} {p2 : Pos} (hu : X.A.units + 1 < cLine) (hp : PPs X p2 keys values (ds.map fun q => (tC (.str q.1), tE F io W q.2))) (hall : keys.all (·.isSome) = true) (hl : keys.length = values.length) (h0 : keys ≠ []) (h15 : keys.length ≤ 15)
    (hd15 : ds.length ≤ 15) (hnd : (ds.map (·.1)).Nodup) (h : PE X a (tE F io W dk)) (h2 : PE X b (tE F io W dd)) (m : M2 X (.Dict keys values p2) "get" apos a b cpos) : PE X (.Call (.Attribute (.Dict keys values p2) "get" apos) [a, b] [] cpos) (tE F io W (dPickG ds dk dd)) := by
  refine (pe_dget2 hu (pe_disp hp hall hl h0 h15) h h2 m).imp fun σ H Q ⟨G, Fr, ρ, S, q⟩ => ?_
  intro p np
  have nF := S.fsub.free np
  have S1 := S.grow (Grow.new0 (o := .dK []) S.sub np)
  have io0 : io ≠ some p := fun e => by
    obtain ⟨_, _, u, hu⟩ := S.iot p e
    rw [np] at hu
    cases hu
  have no0 : ∀ (j : Nat) (d : PV), ρ[j]? = some (some (SV.own d)) → σ[j]? ≠ some (some (V.ref p)) := fun j d e h1 => by
    obtain ⟨b, g1, _, _, g4, _⟩ := S.own j d e
    rw [h1] at g1
    cases g1
    obtain ⟨u, hu⟩ := g4.there
    rw [np] at hu
    cases hu
  have S0 := S1.fr_add (o := .dK []) upd_same (S.sub.free np) io0 no0
  refine pairs_step (same_upd nF) ds S0 q fun us H1 G1 ρ1 kvs e1 S1 r1 q1 hk => ?_
  have hlen : kvs.length = us.length := by simpa using r1.length
  have hkl : kvs.length = ds.length := by simpa using congrArg List.length hk
  refine ⟨S1.fsub p _ upd_same, prK kvs us, prs_map _ _, by rw [prK_len hlen, hkl]; exact hd15, ?_⟩
  have hm : mergeK [] (prK kvs us) = prK kvs us := by
    rw [merge_nodup _ _ (by
      rw [List.nil_append, prK_keys hlen]
      have e2 : (kvs.map fun q => (Sum.inr q.1 : Key)) = (ds.map (·.1)).map Sum.inr := by rw [← hk, List.map_map]; rfl
      rw [e2]
      exact List.Pairwise.map _ (fun x y h e => h (Sum.inr.inj e)) hnd)]
    rfl
  rw [hm]
  obtain ⟨a1, a2, a3⟩ := S1.apart (p := p) upd_same
  have S2 := (S1.fr (same_upd nF)).upd_at (o := .dK (prK kvs us)) a1 nF a2 a3
  have S3 := S2.fr_add (o := .dK (prK kvs us)) upd_same a1 a2 a3
  refine ⟨p, rfl, .inl ⟨_, .inl upd_same⟩, ?_⟩
  refine tD.step S3 (Post.fr (same_upd nF) q1) fun u H4 G4 ρ4 x e4 S4 r4 q4 => tD.step S4 q4 fun u5 H5 G5 ρ5 x5 e5 S5 r5 q5 => ?_
  cases r4 <;> first | exact q5.elim | skip
  case str z =>
    have q5 : Post (Rep F) F io W (upd Fr p (.dK (prK kvs us))) G5 σ Q (.ok ((kvs.lookup z).getD x5) ρ5) := q5
    cases c : kvs.lookup z with
    | none =>
      rw [c] at q5
      exact ⟨none, .inl ⟨_, Sum.inr z, .inl (S5.fsub p _ upd_same), rfl, (valV_prK_none hlen c).symm⟩, q5.done S5 r5⟩
    | some pz =>
      rw [c] at q5
      obtain ⟨v, g1, g2⟩ := valV_prK r1 c
      exact ⟨some v, .inl ⟨_, Sum.inr z, .inl (S5.fsub p _ upd_same), rfl, g1.symm⟩, q5.done S5 ((g2.same e4).same e5)⟩
/-! ### x not in TABLE -/
def pNotInT (kvs : List (Str × PV)) : PV → Option PV
  | .str z => some (.bl (!(kvs.lookup z).isSome))
  | _ => none
theorem pt_notInT {x : Str} {p2 : Pos} {d : DE} {k : Addr} {kvs : List (Str × PV)} (hK : F.K = X.K) (hw : F.w = X.w) (T : TabOk F k kvs) (hm : X.mg x = some (.ref k)) (hg : Gl X x) (h : PE X a (tE F io W d)) (hd : (x == ("__debug__" : Str)) = false := by decide) :
    PT X (.Compare a [.NotIn] [.Name x p2] pos) (tT F io W (dAsB (dUn (pNotInT kvs) d))) := by
  obtain ⟨es, n, D⟩ := T.kd
  refine (pt_cmpR (op_notIn_kd (X := X) (d := k) (es := es) (n := n) (by rw [← hK, ← hw]; exact D)) h (pe_glob (v := .ref k) hg hm rfl hd) rfl).imp fun σ H Q ⟨G, Fr, ρ, S, q⟩ => ?_
  have q : Post RB F io W Fr G σ Q (((d ρ).bind fun x ρ => ofO (pNotInT kvs x) ρ).bind fun x ρ => ofO (asB x) ρ) := q
  have eb : ((d ρ).bind fun x ρ => ofO (pNotInT kvs x) ρ).bind (fun x ρ => ofO (asB x) ρ) = (d ρ).bind fun x ρ => (ofO (pNotInT kvs x) ρ).bind fun x ρ => ofO (asB x) ρ := by cases d ρ <;> rfl
  rw [eb] at q
  refine tD.step S q fun v H1 G1 ρ1 x e1 S1 r1 q1 => ?_
  cases r1 <;> first | exact q1.elim | skip
  case str y =>
    have g := tab_get T y
    have q1 : ∀ v G' H', Same G1 G' → StOk F io G' Fr H' σ ρ1 → (!(kvs.lookup y).isSome) = v → Q v H' := q1
    cases c : kvs.lookup y with
    | none =>
      rw [c] at g q1
      exact ⟨y, none, rfl, rfl, by rw [← hK]; exact g, _, rfl, q1 _ G1 H1 (Same.refl _) S1 rfl⟩
    | some p =>
      rw [c] at g q1
      obtain ⟨u, v, h1, h2, h3⟩ := g
      exact ⟨y, some u, rfl, rfl, by rw [← hK]; exact h1, _, rfl, q1 _ G1 H1 (Same.refl _) S1 rfl⟩
/-- a written negative number -/
theorem pp_nint {i : Int} {j} {p1 : Pos} : PE X (.UnaryOp .USub (.Constant (.int i) j p1) pos) (tE F io W (dC (.int (-i)))) :=
  (pe_un un_neg pe_int).imp fun σ H Q ⟨G, Fr, ρ, S, q⟩ => ⟨i, rfl, Post.done (v := .int (-i)) q S (.int _)⟩
end
end Pl

set_option maxHeartbeats 4000000
/-! P14: repetition of texts, lists, tuples; reading a list of one's own without handing it on. -/
namespace Pl
open PySem PySem.Spec PyProof.Rows L2 RZ
section
variable {X : Cx} {F : Fx} {io : Option Addr} {W : WX} {a b e : Expr} {es : List Expr} {pos apos cpos : Pos}
theorem fold_size (c : Array Nat) : ∀ (n : Nat) (acc : Array Nat), ((List.replicate n c).foldl (· ++ ·) acc).size = acc.size + n * c.size
  | 0, acc => by simp
  | n + 1, acc => by
    rw [List.replicate_succ, List.foldl_cons, fold_size c n, Array.size_append, Nat.succ_mul]
    omega
def repS (n : Nat) (x : Str) : Str := ⟨(List.replicate n x.cps).foldl (· ++ ·) #[]⟩
def rRepS : R2 := fun x y H Q => ∃ a k, x = .str a ∧ y = .int k ∧ 1 < k ∧ k ≤ 1000 ∧ 0 < a.length ∧ a.length ≤ 1000 ∧ Q (.str (repS k.toNat a)) H
theorem op_repS : OpR X (binaryOp .Mult) rRepS := by
  intro pins s σ H x y v u Q I rx ry h
  obtain ⟨a, k, rfl, rfl, h1, h2, h3, h4, q⟩ := h
  obtain ⟨t, rfl⟩ := rx
  obtain ⟨t', rfl⟩ := ry
  have hs : sizeLine = 16777216 := sizeLine_eq
  refine PySem.P.mul_str ?_ (fun _ _ hb => ?_) (fun _ _ => ?_) ?_
  · have e1 : ¬ k < -(2 ^ 63 : Int) := by omega
    have e2 : ¬ k ≥ 2 ^ 63 := by omega
    rw [decide_eq_false e1, decide_eq_false e2]
    rfl
  · have h5 : (9223372036854775807 : Int) / 1000 ≤ (2 ^ 63 - 1) / k := by
      rw [show ((2 : Int) ^ 63 - 1) = 9223372036854775807 from by decide]
      refine (Int.le_ediv_iff_mul_le (by omega)).mpr ?_
      have : (9223372036854775807 : Int) / 1000 = 9223372036854775 := by decide
      rw [this]
      omega
    have : (9223372036854775807 : Int) / 1000 = 9223372036854775 := by decide
    omega
  · unfold Builtin.Str.tooLong
    have h6 : a.length * k.toNat ≤ 1000 * 1000 := Nat.mul_le_mul h4 (by omega)
    exact decide_eq_false (by omega)
  · have e1 : ¬ k < 1 := by omega
    rw [if_neg e1]
    have e2 : (k == 1 || a.length == 0) = false := by
      rw [Bool.or_eq_false_iff]
      exact ⟨beq_eq_false_iff_ne.mpr (by omega), beq_eq_false_iff_ne.mpr (by omega)⟩
    rw [if_neg (by rw [e2]; exact Bool.false_ne_true)]
    refine ⟨?_, .str (repS k.toNat a), H, I.tok _, ⟨_, rfl⟩, q⟩
    show ((List.replicate k.toNat a.cps).foldl (· ++ ·) #[]).size ≤ sizeLine
    rw [fold_size]
    have h6 : k.toNat * a.length ≤ 1000 * 1000 := Nat.mul_le_mul (by omega) h4
    have e0 : (#[] : Array Nat).size = 0 := rfl
    have e1 : a.cps.size = a.length := rfl
    rw [e0, e1]
    omega
def pRep : PV → PV → Option PV
  | .str a, .int k => if 1 < k ∧ k ≤ 1000 ∧ 0 < a.length ∧ a.length ≤ 1000 then some (.str (repS k.toNat a)) else none
  | .lst xs, .int k => if 0 ≤ k ∧ k ≤ 1000 ∧ xs.length ≤ 1000 then some (.lst (List.replicate k.toNat xs).flatten) else none
  | .tup xs, .int k => if 2 ≤ k ∧ k ≤ 1000 ∧ xs.length ≤ 1000 ∧ xs.isEmpty = false then some (.tup (List.replicate k.toNat xs).flatten) else none
  | _, _ => none
def rRepX (K : PySem.W.Frag) : R2 := fun x y H Q => (rRepS x y H Q ∨ rRep x y H Q) ∨ rRepT K x y H Q
theorem op_repX : OpR X (binaryOp .Mult) (rRepX X.K) := OpR.or (OpR.or op_repS op_rep) op_repT
theorem reps_rep {G : Hp} {ps : List PV} {vs : List V} (r : Reps F G ps vs) : ∀ n : Nat, Reps F G (List.replicate n ps).flatten (List.replicate n vs).flatten
  | 0 => .nil
  | n + 1 => by
    rw [List.replicate_succ, List.replicate_succ, List.flatten_cons, List.flatten_cons]
    exact r.append (reps_rep r n)
theorem b_rep (hK : F.K = X.K) : BinOk F (rRepX X.K) pRep := by
  intro G H v u x y z Q s rx ry e k
  cases rx <;> cases ry <;> first | (exfalso; cases e; done) | skip
  case str.int a i =>
    obtain ⟨⟨l1, l2, l3, l4⟩, rfl⟩ := ite_some e
    exact .inl (.inl ⟨_, _, rfl, rfl, l1, l2, l3, l4, k _ G H (Grow.refl s) (.str _)⟩)
  case lst.int xs a vs hx r i =>
    obtain ⟨⟨l1, l2, l3⟩, rfl⟩ := ite_some e
    refine .inl (.inr ⟨_, _, _, rfl, rfl, s _ _ hx, by omega, by omega, ?_, fun p n => ?_⟩)
    · rw [← r.length]
      have h6 : xs.length * i.toNat ≤ 1000 * 1000 := Nat.mul_le_mul l3 (by omega)
      have hs : sizeLine = 16777216 := sizeLine_eq
      omega
    · have sm := same_upd (o := .lst (List.replicate i.toNat vs).flatten) (s.free n)
      exact k _ _ _ (Grow.new1 s n) (.lst upd_same (reps_rep (r.same sm) _))
  case tup.int xs a vs hx r i =>
    obtain ⟨⟨l1, l2, l3, l4⟩, rfl⟩ := ite_some e
    refine .inr ⟨_, _, _, rfl, rfl, by rw [← hK]; exact SqT.same s hx, ?_, l1, l2, by rw [← r.length]; exact l3, fun p n => ?_⟩
    · rintro rfl
      cases r
      cases l4
    · have sm := same_upd (o := .tup (List.replicate i.toNat vs).flatten) (s.free n)
      exact k _ _ _ (Grow.new1 s n) (.tup (.inl (.inl upd_same)) (reps_rep (r.same sm) _))
/-! ### x[e], len(x) of a list of one's own -/
def isVal (ρ : Rho) (i : Nat) : Bool := match ρ[i]? with
  | some (some (.val _)) => true
  | _ => false
def dIxA (i : Nat) (di : DE) : DE := fun ρ => if isVal ρ i = true then dBin pIx (dVar i) di ρ else dIxM i di ρ
theorem pp_ixA {i : Nat} {x : Str} {di : DE} {p1 : Pos} {ix : Expr} (hK : F.K = X.K) (hv : PE X (.Name x p1) (tVar i)) (hi : PE X ix (tE F io W di)) (hs : PlainIx ix := by intro _ _; rfl) : PE X (.Subscript (.Name x p1) ix pos) (tE F io W (dIxA i di)) := by
  refine ⟨fun pins s σ H Q I ⟨G, Fr, ρ, S, q⟩ => ?_⟩
  unfold dIxA at q
  by_cases l : isVal ρ i = true
  · rw [if_pos l] at q
    exact (pp_ix hK (pp_var hv) hi hs).run pins s σ H Q I ⟨G, Fr, ρ, S, q⟩
  · rw [if_neg l] at q
    exact (pp_ixM hK hv hi hs).run pins s σ H Q I ⟨G, Fr, ρ, S, q⟩
def dLenM (i : Nat) : DE := fun ρ => match slotM ρ i with
  | some (.lst xs) => .ok (.int xs.length) ρ
  | _ => .stuck
def dLenA (i : Nat) : DE := fun ρ => if isVal ρ i = true then dFun fLen (dCons (dVar i) dNil) ρ else dLenM i ρ
theorem pp_lenA {i : Nat} {x : Str} {p p1 : Pos} (hK : F.K = X.K) (hm : X.mg "len" = none) (hg : Gl X "len") (hv : PE X (.Name x p1) (tVar i))
    (h1 : starEach [.Name x p1] X.env = (false, eval (.Name x p1) X.env) :: starEach [] X.env := by rfl) (h2 : (backTo pos (starEach [] X.env)).any (·.1) = false := by rfl) : PE X (.Call (.Name "len" p) [.Name x p1] [] pos) (tE F io W (dLenA i)) := by
  refine ⟨fun pins s σ H Q I ⟨G, Fr, ρ, S, q⟩ => ?_⟩
  unfold dLenA at q
  by_cases l : isVal ρ i = true
  · rw [if_pos l] at q
    exact (pp_fun call_lenA (f_len hK) hm (by decide +kernel) hg (pq_cons (pp_var hv) pq_nil h1) (by decide) (by decide) h1 h2).run pins s σ H Q I ⟨G, Fr, ρ, S, q⟩
  · rw [if_neg l] at q
    refine (pe_callB call_lenA hg hm (by decide +kernel) (pa_cons hv pa_nil h1) (by decide) (by decide) h1 h2).run pins s σ H Q I ?_
    unfold dLenM at q
    cases em : slotM ρ i with
    | none => rw [em] at q; exact q.elim
    | some c =>
      rw [em] at q
      cases c <;> first | exact q.elim | skip
      case lst xs =>
        obtain ⟨a, h1, h2, h3, h4, _⟩ := slotM_at S em
        obtain ⟨vs, g1, g2⟩ := own_lst h4
        exact ⟨.ref a, h1, .inl ⟨a, vs, rfl, .inl (.of g1), by rw [← g2.length]; exact Post.done q S (.int _)⟩⟩
end
end Pl

set_option maxHeartbeats 4000000
/-! Q0 (printed by q0.py): meanings are run by simp: a rule a construct, without open continuations. -/
namespace Pl
open PySem PySem.Spec PyProof.Rows L2
section
variable {α : Type} {f g : PV → PV → Option PV} {u : PV → Option PV} {φ : List PV → FR} {ψ : PV → List PV → FRI} {ω : List PV → Option PV} {fs : List PV → Option PV} {d da db dc : DE} {ds es : DD (List PV)} {t t2 : DD Bool} {s s2 : DS} {x y z p : PV} {xs ps ks vs : List PV} {ρ : Rho} {i j c n k : Nat} {as : List PV} {b : Bool} {tg : Tg} {sl : Option Int}
def fin : Out → FR
  | .nx _ => .ok .non
  | .rt p _ => .ok p
  | .exc c as _ => .exc c as
  | .stuck => .stuck
@[simp] theorem fin_nx : fin (.nx ρ) = .ok .non := rfl
@[simp] theorem fin_rt : fin (.rt p ρ) = .ok p := rfl
@[simp] theorem fin_exc : fin (.exc c as ρ) = .exc c as := rfl
def st0 (k : Nat) (ps : List PV) : Rho := ps.map (fun p => some (SV.val p)) ++ List.replicate (k - ps.length) none
theorem runB_fin {s : DS} : runB n s ps = fin (s (st0 n ps)) := by
  unfold runB
  rw [show (ps.map (fun p => some (SV.val p)) ++ List.replicate (n - ps.length) none) = st0 n ps from rfl]
  cases s (st0 n ps) <;> rfl
def finI : Out → FRI
  | .rt p (some (.inp c') :: _) => .ok p c'
  | .nx (some (.inp c') :: _) => .ok .non c'
  | _ => .stuck
@[simp] theorem finI_rt {c' : PV} : finI (.rt p (some (.inp c') :: ρ)) = .ok p c' := rfl
@[simp] theorem finI_nx {c' : PV} : finI (.nx (some (.inp c') :: ρ)) = .ok .non c' := rfl
def stI (k : Nat) (c : PV) (ps : List PV) : Rho := some (.inp c) :: ps.map (fun p => some (SV.val p)) ++ List.replicate (k - (ps.length + 1)) none
theorem runI_fin {s : DS} {c : PV} : runI n s c ps = finI (s (stI n c ps)) := by
  unfold runI
  rw [show (some (SV.inp c) :: ps.map (fun p => some (SV.val p)) ++ List.replicate (n - (ps.length + 1)) none) = stI n c ps from rfl]
  cases s (stI n c ps) with
  | nx ρ => cases ρ with
    | nil => rfl
    | cons v r => cases v with
      | none => rfl
      | some v => cases v <;> rfl
  | rt p ρ => cases ρ with
    | nil => rfl
    | cons v r => cases v with
      | none => rfl
      | some v => cases v <;> rfl
  | exc => rfl
  | stuck => rfl
def finO : Res (List PV) → Option PV
  | .ok xs _ => if xs.length ≤ 1000 then some (.lst xs) else none
  | _ => none
@[simp] theorem finO_ok : finO (.ok xs ρ) = if xs.length ≤ 1000 then some (.lst xs) else none := rfl
theorem runO_fin : runO n ds ps = finO (ds (st0 n ps)) := by
  unfold runO
  rw [show (ps.map (fun p => some (SV.val p)) ++ List.replicate (n - ps.length) none) = st0 n ps from rfl]
  cases ds (st0 n ps) <;> rfl
@[simp] theorem ofO_some {a : α} : ofO (some a) ρ = .ok a ρ := rfl
@[simp] theorem ofO_none : (ofO none ρ : Res α) = .stuck := rfl

@[simp] theorem e_dC : dC p ρ = .ok p ρ := rfl
def get1 : Option (Option SV) → Rho → Res PV
  | some (some (.val p)), ρ => .ok p ρ
  | _, _ => .stuck
@[simp] theorem get1_v : get1 (some (some (.val p))) ρ = .ok p ρ := rfl
@[simp] theorem e_dVar : dVar i ρ = get1 ρ[i]? ρ := by
  unfold dVar
  cases ρ[i]? with
  | none => rfl
  | some v => cases v with
    | none => rfl
    | some v => cases v <;> rfl
def get2 (i : Nat) : Option (Option SV) → Rho → Res PV
  | some (some (.val p)), ρ => .ok p ρ
  | some (some (.own c)), ρ => .ok c (ρ.set i (some (.val c)))
  | _, _ => .stuck
@[simp] theorem get2_v : get2 i (some (some (.val p))) ρ = .ok p ρ := rfl
@[simp] theorem get2_o : get2 i (some (some (.own p))) ρ = .ok p (ρ.set i (some (.val p))) := rfl
@[simp] theorem e_dRd : dRd i ρ = get2 i ρ[i]? ρ := by
  unfold dRd
  cases ρ[i]? with
  | none => rfl
  | some v => cases v with
    | none => rfl
    | some v => cases v <;> rfl
def slm : Option (Option SV) → Option PV
  | some (some (.own c)) => some c
  | some (some (.inp c)) => some c
  | _ => none
@[simp] theorem slm_o : slm (some (some (.own p))) = some p := rfl
@[simp] theorem slm_i : slm (some (some (.inp p))) = some p := rfl
@[simp] theorem slm_v : slm (some (some (.val p))) = none := rfl
@[simp] theorem slm_n : slm (some none) = none := rfl
@[simp] theorem e_slotM : slotM ρ i = slm ρ[i]? := by
  unfold slotM
  cases ρ[i]? with
  | none => rfl
  | some v => cases v with
    | none => rfl
    | some v => cases v <;> rfl
def ptm (ρ : Rho) (i : Nat) (c : PV) : Option (Option SV) → Rho
  | some (some (.own _)) => ρ.set i (some (.own c))
  | some (some (.inp _)) => ρ.set i (some (.inp c))
  | _ => ρ
@[simp] theorem ptm_o : ptm ρ i p (some (some (.own x))) = ρ.set i (some (.own p)) := rfl
@[simp] theorem ptm_i : ptm ρ i p (some (some (.inp x))) = ρ.set i (some (.inp p)) := rfl
@[simp] theorem e_putM : putM ρ i p = ptm ρ i p ρ[i]? := by
  unfold putM
  cases ρ[i]? with
  | none => rfl
  | some v => cases v with
    | none => rfl
    | some v => cases v <;> rfl
def isl : Option PV → Bool
  | some (.lst _) => true
  | _ => false
@[simp] theorem isl_l : isl (some (.lst xs)) = true := rfl
@[simp] theorem isl_n : isl none = false := rfl
@[simp] theorem e_isLstM : isLstM ρ i = isl (slotM ρ i) := by
  unfold isLstM
  cases slotM ρ i with
  | none => rfl
  | some v => cases v <;> rfl
def isd : Option PV → Bool
  | some (.dks _ _) => true
  | _ => false
@[simp] theorem isd_l : isd (some (.dks xs ps)) = true := rfl
@[simp] theorem isd_n : isd none = false := rfl
@[simp] theorem e_isDkM : isDkM ρ i = isd (slotM ρ i) := by
  unfold isDkM
  cases slotM ρ i with
  | none => rfl
  | some v => cases v <;> rfl
def isv : Option (Option SV) → Bool
  | some (some (.val _)) => true
  | _ => false
@[simp] theorem isv_v : isv (some (some (.val p))) = true := rfl
@[simp] theorem isv_o : isv (some (some (.own p))) = false := rfl
@[simp] theorem isv_i : isv (some (some (.inp p))) = false := rfl
@[simp] theorem e_isVal : isVal ρ i = isv ρ[i]? := by
  unfold isVal
  cases ρ[i]? with
  | none => rfl
  | some v => cases v with
    | none => rfl
    | some v => cases v <;> rfl
@[simp] theorem e_dNil : dNil ρ = .ok [] ρ := rfl
def cons3 (x : PV) : Res (List PV) → Res (List PV)
  | .ok xs ρ => .ok (x :: xs) ρ
  | .exc c as ρ => .exc c as ρ
  | .stuck => .stuck
def cons2 (r : DD (List PV)) : Res PV → Res (List PV)
  | .ok x ρ => cons3 x (r ρ)
  | .exc c as ρ => .exc c as ρ
  | .stuck => .stuck
@[simp] theorem e_dCons : dCons d ds ρ = cons2 ds (d ρ) := by
  unfold dCons cons2
  cases d ρ with
  | ok x ρ1 => show (ds ρ1).bind _ = cons3 x (ds ρ1); cases ds ρ1 <;> rfl
  | _ => rfl
@[simp] theorem cons2_ok : cons2 ds (.ok x ρ) = cons3 x (ds ρ) := rfl
@[simp] theorem cons2_exc : cons2 ds (.exc c as ρ) = .exc c as ρ := rfl
@[simp] theorem cons3_ok : cons3 x (.ok xs ρ) = .ok (x :: xs) ρ := rfl
@[simp] theorem cons3_exc : cons3 x (.exc c as ρ) = .exc c as ρ := rfl
def tup2  : Res (List PV) → Res PV
  | .ok xs ρ => if xs.length ≤ 1000 then .ok (.tup xs) ρ else .stuck
  | .exc c as ρ => .exc c as ρ
  | .stuck => .stuck
@[simp] theorem e_tup2 : dTup ds ρ = tup2  (ds ρ) := by
  unfold dTup tup2
  cases ds ρ <;> first | rfl | (rename_i v _; cases v <;> rfl) | (dsimp only [Res.bind, Res.toOut]; split <;> rfl)
@[simp] theorem tup2_exc : tup2  (.exc c as ρ) = .exc c as ρ := rfl
@[simp] theorem tup2_ok {xs : List PV} : tup2  (.ok xs ρ) = if xs.length ≤ 1000 then .ok (.tup xs) ρ else .stuck := rfl
def lst2  : Res (List PV) → Res PV
  | .ok xs ρ => if xs.length ≤ 1000 then .ok (.lst xs) ρ else .stuck
  | .exc c as ρ => .exc c as ρ
  | .stuck => .stuck
@[simp] theorem e_lst2 : dLst ds ρ = lst2  (ds ρ) := by
  unfold dLst lst2
  cases ds ρ <;> first | rfl | (rename_i v _; cases v <;> rfl) | (dsimp only [Res.bind, Res.toOut]; split <;> rfl)
@[simp] theorem lst2_exc : lst2  (.exc c as ρ) = .exc c as ρ := rfl
@[simp] theorem lst2_ok {xs : List PV} : lst2  (.ok xs ρ) = if xs.length ≤ 1000 then .ok (.lst xs) ρ else .stuck := rfl
def bin3 (f : PV → PV → Option PV) (x : PV) : Res PV → Res PV
  | .ok y ρ => ofO (f x y) ρ
  | .exc c as ρ => .exc c as ρ
  | .stuck => .stuck
@[simp] theorem bin3_ok : bin3 f x (.ok y ρ) = ofO (f x y) ρ := rfl
@[simp] theorem bin3_exc : bin3 f x (.exc c as ρ) = .exc c as ρ := rfl
def bin2 (f : PV → PV → Option PV) (db : DE) : Res PV → Res PV
  | .ok x ρ => bin3 f x (db ρ)
  | .exc c as ρ => .exc c as ρ
  | .stuck => .stuck
@[simp] theorem bin2_ok : bin2 f db (.ok x ρ) = bin3 f x (db ρ) := rfl
@[simp] theorem bin2_exc : bin2 f db (.exc c as ρ) = .exc c as ρ := rfl
@[simp] theorem e_dBin : dBin f da db ρ = bin2 f db (da ρ) := by
  unfold dBin bin2
  cases da ρ with
  | ok x ρ1 => show (db ρ1).bind _ = bin3 f x (db ρ1); cases db ρ1 <;> rfl
  | _ => rfl
def bins2 (f : PV → PV → Option PV) (db : DE) : Res PV → Res PV
  | .ok x ρ => if isStr x = true then bin3 f x (db ρ) else .stuck
  | .exc c as ρ => .exc c as ρ
  | .stuck => .stuck
@[simp] theorem bins2_ok : bins2 f db (.ok x ρ) = if isStr x = true then bin3 f x (db ρ) else .stuck := rfl
@[simp] theorem e_dBinS : dBinS f da db ρ = bins2 f db (da ρ) := by
  unfold dBinS bins2
  cases da ρ with
  | ok x ρ1 =>
    show (if isStr x = true then (db ρ1).bind _ else Res.stuck) = if isStr x = true then bin3 f x (db ρ1) else Res.stuck
    have e : (db ρ1).bind (fun y ρ => ofO (f x y) ρ) = bin3 f x (db ρ1) := by cases db ρ1 <;> rfl
    rw [e]
  | _ => rfl
def un2 (u : PV → Option PV) : Res (PV) → Res PV
  | .ok x ρ => ofO (u x) ρ
  | .exc c as ρ => .exc c as ρ
  | .stuck => .stuck
@[simp] theorem e_un2 : dUn u d ρ = un2 u (d ρ) := by
  unfold dUn un2
  cases d ρ <;> first | rfl | (rename_i v _; cases v <;> rfl) | (dsimp only [Res.bind, Res.toOut]; split <;> rfl)
@[simp] theorem un2_exc : un2 u (.exc c as ρ) = .exc c as ρ := rfl
@[simp] theorem un2_ok {x : PV} : un2 u (.ok x ρ) = ofO (u x) ρ := rfl
@[simp] theorem isStr_s : ∀ q : Str, isStr (.str q) = true := fun _ => rfl
def tru2  : Res (PV) → Res Bool
  | .ok x ρ => ofO (truth x) ρ
  | .exc c as ρ => .exc c as ρ
  | .stuck => .stuck
@[simp] theorem e_tru2 : dTru d ρ = tru2  (d ρ) := by
  unfold dTru tru2
  cases d ρ <;> first | rfl | (rename_i v _; cases v <;> rfl) | (dsimp only [Res.bind, Res.toOut]; split <;> rfl)
@[simp] theorem tru2_exc : tru2  (.exc c as ρ) = .exc c as ρ := rfl
@[simp] theorem tru2_ok {x : PV} : tru2  (.ok x ρ) = ofO (truth x) ρ := rfl
def asb2  : Res (PV) → Res Bool
  | .ok x ρ => ofO (asB x) ρ
  | .exc c as ρ => .exc c as ρ
  | .stuck => .stuck
@[simp] theorem e_asb2 : dAsB d ρ = asb2  (d ρ) := by
  unfold dAsB asb2
  cases d ρ <;> first | rfl | (rename_i v _; cases v <;> rfl) | (dsimp only [Res.bind, Res.toOut]; split <;> rfl)
@[simp] theorem asb2_exc : asb2  (.exc c as ρ) = .exc c as ρ := rfl
@[simp] theorem asb2_ok {x : PV} : asb2  (.ok x ρ) = ofO (asB x) ρ := rfl
def not2  : Res (Bool) → Res Bool
  | .ok b ρ => .ok (!b) ρ
  | .exc c as ρ => .exc c as ρ
  | .stuck => .stuck
@[simp] theorem e_not2 : dNot t ρ = not2  (t ρ) := by
  unfold dNot not2
  cases t ρ <;> first | rfl | (rename_i v _; cases v <;> rfl) | (dsimp only [Res.bind, Res.toOut]; split <;> rfl)
@[simp] theorem not2_exc : not2  (.exc c as ρ) = .exc c as ρ := rfl
@[simp] theorem not2_ok {b : Bool} : not2  (.ok b ρ) = .ok (!b) ρ := rfl
def and2 (u : DD Bool) : Res (Bool) → Res Bool
  | .ok b ρ => if b = true then u ρ else .ok false ρ
  | .exc c as ρ => .exc c as ρ
  | .stuck => .stuck
@[simp] theorem e_and2 : dAnd t t2 ρ = and2 t2 (t ρ) := by
  unfold dAnd and2
  cases t ρ <;> first | rfl | (rename_i v _; cases v <;> rfl) | (dsimp only [Res.bind, Res.toOut]; split <;> rfl)
@[simp] theorem and2_exc : and2 t2 (.exc c as ρ) = .exc c as ρ := rfl
@[simp] theorem and2_ok {b : Bool} : and2 t2 (.ok b ρ) = if b = true then t2 ρ else .ok false ρ := rfl
def or2 (u : DD Bool) : Res (Bool) → Res Bool
  | .ok b ρ => if b = true then .ok true ρ else u ρ
  | .exc c as ρ => .exc c as ρ
  | .stuck => .stuck
@[simp] theorem e_or2 : dOr t t2 ρ = or2 t2 (t ρ) := by
  unfold dOr or2
  cases t ρ <;> first | rfl | (rename_i v _; cases v <;> rfl) | (dsimp only [Res.bind, Res.toOut]; split <;> rfl)
@[simp] theorem or2_exc : or2 t2 (.exc c as ρ) = .exc c as ρ := rfl
@[simp] theorem or2_ok {b : Bool} : or2 t2 (.ok b ρ) = if b = true then .ok true ρ else t2 ρ := rfl
def bv (r : Bool → Res PV) : PV → Res PV
  | .bl b => r b
  | _ => .stuck
@[simp] theorem bv_b : ∀ r, bv r (.bl b) = r b := fun _ => rfl
def andv (u : DE) (b : Bool) (ρ : Rho) : Res PV := if b = true then u ρ else .ok (.bl false) ρ
def orv (u : DE) (b : Bool) (ρ : Rho) : Res PV := if b = true then .ok (.bl true) ρ else u ρ
@[simp] theorem andv_t : andv d true ρ = d ρ := rfl
@[simp] theorem andv_f : andv d false ρ = .ok (.bl false) ρ := rfl
@[simp] theorem orv_t : orv d true ρ = .ok (.bl true) ρ := rfl
@[simp] theorem orv_f : orv d false ρ = d ρ := rfl
def andv2 (u : DE) : Res PV → Res PV
  | .ok (.bl b) ρ => andv u b ρ
  | .exc c as ρ => .exc c as ρ
  | _ => .stuck
@[simp] theorem andv2_ok : andv2 d (.ok (.bl b) ρ) = andv d b ρ := rfl
@[simp] theorem e_andv2 : dAndV da d ρ = andv2 d (da ρ) := by
  unfold dAndV andv2
  cases da ρ with
  | ok x ρ1 => cases x with
    | bl b => cases b <;> rfl
    | _ => rfl
  | _ => rfl
def orv2 (u : DE) : Res PV → Res PV
  | .ok (.bl b) ρ => orv u b ρ
  | .exc c as ρ => .exc c as ρ
  | _ => .stuck
@[simp] theorem orv2_ok : orv2 d (.ok (.bl b) ρ) = orv d b ρ := rfl
@[simp] theorem e_orv2 : dOrV da d ρ = orv2 d (da ρ) := by
  unfold dOrV orv2
  cases da ρ with
  | ok x ρ1 => cases x with
    | bl b => cases b <;> rfl
    | _ => rfl
  | _ => rfl
def notv2 : Res PV → Res PV
  | .ok (.bl b) ρ => .ok (.bl (!b)) ρ
  | .exc c as ρ => .exc c as ρ
  | _ => .stuck
@[simp] theorem notv2_ok : notv2 (.ok (.bl b) ρ) = .ok (.bl (!b)) ρ := rfl
@[simp] theorem e_notv2 : dNotV d ρ = notv2 (d ρ) := by
  unfold dNotV notv2
  cases d ρ with
  | ok x ρ1 => cases x <;> rfl
  | _ => rfl
def nott2  : Res (PV) → Res PV
  | .ok x ρ => ofO ((truth x).map fun b => .bl (!b)) ρ
  | .exc c as ρ => .exc c as ρ
  | .stuck => .stuck
@[simp] theorem e_nott2 : dNotT d ρ = nott2  (d ρ) := by
  unfold dNotT nott2
  cases d ρ <;> first | rfl | (rename_i v _; cases v <;> rfl) | (dsimp only [Res.bind, Res.toOut]; split <;> rfl)
@[simp] theorem nott2_exc : nott2  (.exc c as ρ) = .exc c as ρ := rfl
@[simp] theorem nott2_ok {x : PV} : nott2  (.ok x ρ) = ofO ((truth x).map fun b => .bl (!b)) ρ := rfl
def if2 (a b : DE) : Res (Bool) → Res PV
  | .ok k ρ => if k = true then a ρ else b ρ
  | .exc c as ρ => .exc c as ρ
  | .stuck => .stuck
@[simp] theorem e_if2 : dIf t da db ρ = if2 da db (t ρ) := by
  unfold dIf if2
  cases t ρ <;> first | rfl | (rename_i v _; cases v <;> rfl) | (dsimp only [Res.bind, Res.toOut]; split <;> rfl)
@[simp] theorem if2_exc : if2 da db (.exc c as ρ) = .exc c as ρ := rfl
@[simp] theorem if2_ok {k : Bool} : if2 da db (.ok k ρ) = if k = true then da ρ else db ρ := rfl
def ch4 (g : PV → PV → Option PV) (y : PV) : Res PV → Res PV
  | .ok z ρ => ofO (g y z) ρ
  | .exc c as ρ => .exc c as ρ
  | .stuck => .stuck
@[simp] theorem ch4_ok : ch4 g y (.ok z ρ) = ofO (g y z) ρ := rfl
def ch3b (g : PV → PV → Option PV) (y : PV) (dc : DE) (ρ : Rho) : Option PV → Res PV
  | some (.bl true) => ch4 g y (dc ρ)
  | some (.bl false) => .ok (.bl false) ρ
  | _ => .stuck
@[simp] theorem ch3b_if : ch3b g y dc ρ (some (.bl b)) = if b = true then ch4 g y (dc ρ) else .ok (.bl false) ρ := by cases b <;> rfl
def ch3 (f g : PV → PV → Option PV) (x : PV) (dc : DE) : Res PV → Res PV
  | .ok y ρ => ch3b g y dc ρ (f x y)
  | .exc c as ρ => .exc c as ρ
  | .stuck => .stuck
@[simp] theorem ch3_ok : ch3 f g x dc (.ok y ρ) = ch3b g y dc ρ (f x y) := rfl
def ch2 (f g : PV → PV → Option PV) (db dc : DE) : Res PV → Res PV
  | .ok x ρ => ch3 f g x dc (db ρ)
  | .exc c as ρ => .exc c as ρ
  | .stuck => .stuck
@[simp] theorem ch2_ok : ch2 f g db dc (.ok x ρ) = ch3 f g x dc (db ρ) := rfl
@[simp] theorem e_dChain : dChain f g da db dc ρ = ch2 f g db dc (da ρ) := by
  unfold dChain ch2
  cases da ρ with
  | ok x ρ1 =>
    show (db ρ1).bind _ = ch3 f g x dc (db ρ1)
    unfold ch3
    cases db ρ1 with
    | ok y ρ2 =>
      show (match f x y with
        | some (.bl true) => (dc ρ2).bind fun z ρ => ofO (g y z) ρ
        | some (.bl false) => .ok (.bl false) ρ2
        | _ => .stuck) = ch3b g y dc ρ2 (f x y)
      unfold ch3b ch4
      cases f x y with
      | none => rfl
      | some v => cases v with
        | bl b => cases b with
          | true => cases dc ρ2 <;> rfl
          | false => rfl
        | _ => rfl
    | _ => rfl
  | _ => rfl
def cal3 (ρ : Rho) : FR → Res PV
  | .ok r => .ok r ρ
  | .exc c as => .exc c as ρ
  | .stuck => .stuck
@[simp] theorem cal3_ok : cal3 ρ (.ok x) = .ok x ρ := rfl
@[simp] theorem cal3_exc : cal3 ρ (.exc c as) = .exc c as ρ := rfl
def cal2 (φ : List PV → FR) : Res (List PV) → Res PV
  | .ok xs ρ => cal3 ρ (φ xs)
  | .exc c as ρ => .exc c as ρ
  | .stuck => .stuck
@[simp] theorem e_cal2 : dCall φ ds ρ = cal2 φ (ds ρ) := by
  unfold dCall cal2
  cases ds ρ <;> first | rfl | (rename_i v _; cases v <;> rfl) | (dsimp only [Res.bind, Res.toOut]; split <;> rfl)
@[simp] theorem cal2_exc : cal2 φ (.exc c as ρ) = .exc c as ρ := rfl
@[simp] theorem cal2_ok {xs : List PV} : cal2 φ (.ok xs ρ) = cal3 ρ (φ xs) := rfl
def fun2 (fs : List PV → Option PV) : Res (List PV) → Res PV
  | .ok xs ρ => ofO (fs xs) ρ
  | .exc c as ρ => .exc c as ρ
  | .stuck => .stuck
@[simp] theorem e_fun2 : dFun fs ds ρ = fun2 fs (ds ρ) := by
  unfold dFun fun2
  cases ds ρ <;> first | rfl | (rename_i v _; cases v <;> rfl) | (dsimp only [Res.bind, Res.toOut]; split <;> rfl)
@[simp] theorem fun2_exc : fun2 fs (.exc c as ρ) = .exc c as ρ := rfl
@[simp] theorem fun2_ok {xs : List PV} : fun2 fs (.ok xs ρ) = ofO (fs xs) ρ := rfl
def cali4 (ρ : Rho) (i : Nat) : FRI → Res PV
  | .ok r c' => .ok r (putM ρ i c')
  | .stuck => .stuck
@[simp] theorem cali4_ok : cali4 ρ i (.ok x y) = .ok x (putM ρ i y) := rfl
def cali3 (ψ : PV → List PV → FRI) (ρ : Rho) (i : Nat) (xs : List PV) : Option PV → Res PV
  | some c => cali4 ρ i (ψ c xs)
  | none => .stuck
@[simp] theorem cali3_s : cali3 ψ ρ i xs (some x) = cali4 ρ i (ψ x xs) := rfl
def cali2 (ψ : PV → List PV → FRI) (i : Nat) : Res (List PV) → Res PV
  | .ok xs ρ => cali3 ψ ρ i xs (slotM ρ i)
  | .exc c as ρ => .exc c as ρ
  | .stuck => .stuck
@[simp] theorem cali2_ok : cali2 ψ i (.ok xs ρ) = cali3 ψ ρ i xs (slotM ρ i) := rfl
@[simp] theorem e_dCallI : dCallI i ψ ds ρ = if (slotM ρ i).isSome = true then cali2 ψ i (ds ρ) else .stuck := by
  unfold dCallI cali2
  by_cases h : (slotM ρ i).isSome = true
  · rw [if_pos h, if_pos h]
    cases ds ρ with
    | ok xs ρ1 =>
      show (match slotM ρ1 i with
        | some c => _
        | none => _) = cali3 ψ ρ1 i xs (slotM ρ1 i)
      cases slotM ρ1 i with
      | none => rfl
      | some c =>
        show (match ψ c xs with
          | .ok r c' => Res.ok r (putM ρ1 i c')
          | .stuck => Res.stuck) = cali4 ρ1 i (ψ c xs)
        cases ψ c xs <;> rfl
    | _ => rfl
  · rw [if_neg h, if_neg h]
variable {T : String}
def isi2 (T : String) : Res (PV) → Res PV
  | .ok x ρ => ofO (pIsi T x) ρ
  | .exc c as ρ => .exc c as ρ
  | .stuck => .stuck
@[simp] theorem e_isi2 : dIsi T d ρ = isi2 T (d ρ) := by
  unfold dIsi isi2
  cases d ρ <;> first | rfl | (rename_i v _; cases v <;> rfl) | (dsimp only [Res.bind, Res.toOut]; split <;> rfl)
@[simp] theorem isi2_exc : isi2 T (.exc c as ρ) = .exc c as ρ := rfl
@[simp] theorem isi2_ok {x : PV} : isi2 T (.ok x ρ) = ofO (pIsi T x) ρ := rfl
def part2 : Res PV → Res (Option Int)
  | .ok (.int i) ρ => .ok (some i) ρ
  | .exc c as ρ => .exc c as ρ
  | _ => .stuck
@[simp] theorem part2_ok {i : Int} : part2 (.ok (.int i) ρ) = .ok (some i) ρ := rfl
@[simp] theorem e_dPartN : dPart none ρ = .ok none ρ := rfl
@[simp] theorem e_dPartS : dPart (some d) ρ = part2 (d ρ) := by
  show (d ρ).bind _ = part2 (d ρ)
  unfold part2
  cases d ρ with
  | ok x ρ1 => cases x <;> rfl
  | _ => rfl
def sl4 (x : PV) (lo : Option Int) : Res (Option Int) → Res PV
  | .ok hi ρ => ofO (pSl x lo hi) ρ
  | .exc c as ρ => .exc c as ρ
  | .stuck => .stuck
def sl3 (x : PV) (dh : Option DE) : Res (Option Int) → Res PV
  | .ok lo ρ => sl4 x lo (dPart dh ρ)
  | .exc c as ρ => .exc c as ρ
  | .stuck => .stuck
def sl2 (dl dh : Option DE) : Res PV → Res PV
  | .ok x ρ => sl3 x dh (dPart dl ρ)
  | .exc c as ρ => .exc c as ρ
  | .stuck => .stuck
variable {dl dh : Option DE} {lo hi : Option Int}
@[simp] theorem sl4_ok : sl4 x lo (.ok hi ρ) = ofO (pSl x lo hi) ρ := rfl
@[simp] theorem sl3_ok : sl3 x dh (.ok lo ρ) = sl4 x lo (dPart dh ρ) := rfl
@[simp] theorem sl2_ok : sl2 dl dh (.ok x ρ) = sl3 x dh (dPart dl ρ) := rfl
@[simp] theorem e_dSl : dSl da dl dh ρ = sl2 dl dh (da ρ) := by
  unfold dSl sl2
  cases da ρ with
  | ok x ρ1 =>
    show (dPart dl ρ1).bind _ = sl3 x dh (dPart dl ρ1)
    unfold sl3
    cases dPart dl ρ1 with
    | ok lo ρ2 =>
      show (dPart dh ρ2).bind _ = sl4 x lo (dPart dh ρ2)
      cases dPart dh ρ2 <;> rfl
    | _ => rfl
  | _ => rfl
def thn2 (s2 : DS) : Out → Out
  | .nx ρ => s2 ρ
  | .rt p ρ => .rt p ρ
  | .exc c as ρ => .exc c as ρ
  | .stuck => .stuck
@[simp] theorem thn2_nx : thn2 s (.nx ρ) = s ρ := rfl
@[simp] theorem thn2_rt : thn2 s (.rt p ρ) = .rt p ρ := rfl
@[simp] theorem thn2_exc : thn2 s (.exc c as ρ) = .exc c as ρ := rfl
@[simp] theorem e_sSeq : sSeq s s2 ρ = thn2 s2 (s ρ) := by
  unfold sSeq
  cases s ρ <;> rfl
@[simp] theorem e_sNil : sNil ρ = .nx ρ := rfl
@[simp] theorem e_sRetN : sRetN ρ = .rt .non ρ := rfl
def exp2  : Res (PV) → Out
  | .ok x ρ => .nx ρ
  | .exc c as ρ => .exc c as ρ
  | .stuck => .stuck
@[simp] theorem e_exp2 : sExpr d ρ = exp2  (d ρ) := by
  unfold sExpr exp2
  cases d ρ <;> first | rfl | (rename_i v _; cases v <;> rfl) | (dsimp only [Res.bind, Res.toOut]; split <;> rfl)
@[simp] theorem exp2_exc : exp2  (.exc c as ρ) = .exc c as ρ := rfl
@[simp] theorem exp2_ok {x : PV} : exp2  (.ok x ρ) = .nx ρ := rfl
def ret2  : Res (PV) → Out
  | .ok x ρ => .rt x ρ
  | .exc c as ρ => .exc c as ρ
  | .stuck => .stuck
@[simp] theorem e_ret2 : sRet d ρ = ret2  (d ρ) := by
  unfold sRet ret2
  cases d ρ <;> first | rfl | (rename_i v _; cases v <;> rfl) | (dsimp only [Res.bind, Res.toOut]; split <;> rfl)
@[simp] theorem ret2_exc : ret2  (.exc c as ρ) = .exc c as ρ := rfl
@[simp] theorem ret2_ok {x : PV} : ret2  (.ok x ρ) = .rt x ρ := rfl
def ifs2 (a b : DS) : Res (Bool) → Out
  | .ok k ρ => if k = true then a ρ else b ρ
  | .exc c as ρ => .exc c as ρ
  | .stuck => .stuck
@[simp] theorem e_ifs2 : sIf t s s2 ρ = ifs2 s s2 (t ρ) := by
  unfold sIf ifs2
  cases t ρ <;> first | rfl | (rename_i v _; cases v <;> rfl) | (dsimp only [Res.bind, Res.toOut]; split <;> rfl)
@[simp] theorem ifs2_exc : ifs2 s s2 (.exc c as ρ) = .exc c as ρ := rfl
@[simp] theorem ifs2_ok {k : Bool} : ifs2 s s2 (.ok k ρ) = if k = true then s ρ else s2 ρ := rfl
def set2 (i : Nat) : Res (PV) → Out
  | .ok x ρ => .nx (ρ.set i (some (.val x)))
  | .exc c as ρ => .exc c as ρ
  | .stuck => .stuck
@[simp] theorem e_set2 : sSet i d ρ = set2 i (d ρ) := by
  unfold sSet set2
  cases d ρ <;> first | rfl | (rename_i v _; cases v <;> rfl) | (dsimp only [Res.bind, Res.toOut]; split <;> rfl)
@[simp] theorem set2_exc : set2 i (.exc c as ρ) = .exc c as ρ := rfl
@[simp] theorem set2_ok {x : PV} : set2 i (.ok x ρ) = .nx (ρ.set i (some (.val x))) := rfl
def tgO : Option Rho → Out
  | some ρ => .nx ρ
  | none => .stuck
@[simp] theorem tgO_s : tgO (some ρ) = .nx ρ := rfl
def asg2 (g : Tg) : Res (PV) → Out
  | .ok x ρ => tgO (g.set x ρ)
  | .exc c as ρ => .exc c as ρ
  | .stuck => .stuck
@[simp] theorem e_asg2 : sAsg tg d ρ = asg2 tg (d ρ) := by
  unfold sAsg asg2
  cases d ρ <;> first | rfl | (rename_i v _; cases v <;> rfl) | (dsimp only [Res.bind, Res.toOut]; split <;> rfl)
@[simp] theorem asg2_exc : asg2 tg (.exc c as ρ) = .exc c as ρ := rfl
@[simp] theorem asg2_ok {x : PV} : asg2 tg (.ok x ρ) = tgO (tg.set x ρ) := rfl
@[simp] theorem e_tgOne : Tg.set (.one i) p ρ = some (ρ.set i (some (.val p))) := rfl
variable {is : List Nat}
@[simp] theorem e_tgTup : Tg.set (.tup is) (.tup ps) ρ = setAll is ps ρ := rfl
@[simp] theorem e_setNil : setAll [] [] ρ = some ρ := rfl
@[simp] theorem e_setCons : setAll (i :: is) (p :: ps) ρ = setAll is ps (ρ.set i (some (.val p))) := rfl
def par3 (i j : Nat) (ρ : Rho) : List PV → Out
  | [x, y] => .nx ((ρ.set i (some (.val x))).set j (some (.val y)))
  | _ => .stuck
@[simp] theorem par3_2 : par3 i j ρ [x, y] = .nx ((ρ.set i (some (.val x))).set j (some (.val y))) := rfl
def par2 (i j : Nat) : Res (List PV) → Out
  | .ok xs ρ => par3 i j ρ xs
  | .exc c as ρ => .exc c as ρ
  | .stuck => .stuck
@[simp] theorem e_par2 : sPar i j ds ρ = par2 i j (ds ρ) := by
  unfold sPar par2
  cases ds ρ <;> first | rfl | (rename_i v _; cases v <;> rfl) | (dsimp only [Res.bind, Res.toOut]; split <;> rfl)
@[simp] theorem par2_exc : par2 i j (.exc c as ρ) = .exc c as ρ := rfl
@[simp] theorem par2_ok {xs : List PV} : par2 i j (.ok xs ρ) = par3 i j ρ xs := rfl
def aug4 (i : Nat) (ρ : Rho) : Option PV → Out
  | some z => .nx (ρ.set i (some (.val z)))
  | none => .stuck
@[simp] theorem aug4_s : aug4 i ρ (some x) = .nx (ρ.set i (some (.val x))) := rfl
def aug3 (i : Nat) (f : PV → PV → Option PV) (x : PV) : Res PV → Out
  | .ok y ρ => aug4 i ρ (f x y)
  | .exc c as ρ => .exc c as ρ
  | .stuck => .stuck
@[simp] theorem aug3_ok : aug3 i f x (.ok y ρ) = aug4 i ρ (f x y) := rfl
def aug2 (i : Nat) (f : PV → PV → Option PV) (d : DE) (ρ : Rho) : Option (Option SV) → Out
  | some (some (.val x)) => aug3 i f x (d ρ)
  | _ => .stuck
@[simp] theorem aug2_v : aug2 i f d ρ (some (some (.val x))) = aug3 i f x (d ρ) := rfl
@[simp] theorem e_sAug : sAug i f d ρ = aug2 i f d ρ ρ[i]? := by
  unfold sAug aug2
  cases ρ[i]? with
  | none => rfl
  | some v => cases v with
    | none => rfl
    | some v => cases v with
      | val x =>
        show (d ρ).toOut _ = aug3 i f x (d ρ)
        cases d ρ with
        | ok y ρ1 => show (match f x y with | some z => Out.nx _ | none => Out.stuck) = aug4 i ρ1 (f x y); cases f x y <;> rfl
        | _ => rfl
      | _ => rfl
@[simp] theorem pIpAdd_i (i j : Int) : pIpAdd (.int i) (.int j) = some (.int (i + j)) := rfl
def for2 (g : Tg) (s : DS) : Res (List PV) → Out
  | .ok ps ρ => forL g s ps ρ
  | .exc c as ρ => .exc c as ρ
  | .stuck => .stuck
@[simp] theorem e_for2 : sFor tg ds s ρ = for2 tg s (ds ρ) := by
  unfold sFor for2
  cases ds ρ <;> first | rfl | (rename_i v _; cases v <;> rfl) | (dsimp only [Res.bind, Res.toOut]; split <;> rfl)
@[simp] theorem for2_exc : for2 tg s (.exc c as ρ) = .exc c as ρ := rfl
@[simp] theorem for2_ok {ps : List PV} : for2 tg s (.ok ps ρ) = forL tg s ps ρ := rfl
@[simp] theorem e_sRaise : sRaise c ρ = .exc c [] ρ := rfl
def rsa2 (c : Nat) : Res (PV) → Out
  | .ok x ρ => .exc c [x] ρ
  | .exc c as ρ => .exc c as ρ
  | .stuck => .stuck
@[simp] theorem e_rsa2 : sRaiseA n d ρ = rsa2 n (d ρ) := by
  unfold sRaiseA rsa2
  cases d ρ <;> first | rfl | (rename_i v _; cases v <;> rfl) | (dsimp only [Res.bind, Res.toOut]; split <;> rfl)
@[simp] theorem rsa2_exc : rsa2 n (.exc c as ρ) = .exc c as ρ := rfl
@[simp] theorem rsa2_ok {x : PV} : rsa2 n (.ok x ρ) = .exc n [x] ρ := rfl
def newl2 (i : Nat) : Res (List PV) → Out
  | .ok xs ρ => if xs.length ≤ 1000 then .nx (ρ.set i (some (.own (.lst xs)))) else .stuck
  | .exc c as ρ => .exc c as ρ
  | .stuck => .stuck
@[simp] theorem newl2_ok : newl2 i (.ok xs ρ) = if xs.length ≤ 1000 then .nx (ρ.set i (some (.own (.lst xs)))) else .stuck := rfl
@[simp] theorem e_sNewL : sNewL i ds ρ = newl2 i (ds ρ) := by
  unfold sNewL newl2
  cases ds ρ <;> rfl
def app3 (i : Nat) (y : PV) (ρ : Rho) : Option PV → Out
  | some (.lst xs) => if xs.length < LIM then .nx (putM ρ i (.lst (xs ++ [y]))) else .stuck
  | _ => .stuck
@[simp] theorem app3_l : app3 i y ρ (some (.lst xs)) = if xs.length < LIM then .nx (putM ρ i (.lst (xs ++ [y]))) else .stuck := rfl
def app2 (i : Nat) : Res PV → Out
  | .ok y ρ => app3 i y ρ (slotM ρ i)
  | .exc c as ρ => .exc c as ρ
  | .stuck => .stuck
@[simp] theorem app2_ok : app2 i (.ok y ρ) = app3 i y ρ (slotM ρ i) := rfl
@[simp] theorem e_sApp : sApp' i d ρ = if isLstM ρ i = true then app2 i (d ρ) else .stuck := by
  unfold sApp' sApp app2
  by_cases h : isLstM ρ i = true
  · rw [if_pos h, if_pos h]
    cases d ρ with
    | ok y ρ1 =>
      show (match slotM ρ1 i with
        | some (.lst xs) => _
        | _ => _) = app3 i y ρ1 (slotM ρ1 i)
      cases slotM ρ1 i with
      | none => rfl
      | some v => cases v <;> rfl
    | _ => rfl
  · rw [if_neg h, if_neg h]
def putl4 (i : Nat) (y : PV) (ρ : Rho) (xs : List PV) : Option Nat → Out
  | some m => .nx (putM ρ i (.lst (xs.set m y)))
  | none => .stuck
@[simp] theorem putl4_s : putl4 i y ρ xs (some n) = .nx (putM ρ i (.lst (xs.set n y))) := rfl
def putl3 (i : Nat) (y : PV) (ρ : Rho) (k : PV) : Option PV → Out
  | some (.lst xs) => (match k with
    | .int j => putl4 i y ρ xs (ixN xs.length j)
    | _ => .stuck)
  | _ => .stuck
@[simp] theorem putl3_l {j : Int} : putl3 i y ρ (.int j) (some (.lst xs)) = putl4 i y ρ xs (ixN xs.length j) := rfl
def putl2 (i : Nat) (y : PV) : Res PV → Out
  | .ok k ρ => putl3 i y ρ k (slotM ρ i)
  | .exc c as ρ => .exc c as ρ
  | .stuck => .stuck
@[simp] theorem putl2_ok : putl2 i y (.ok x ρ) = putl3 i y ρ x (slotM ρ i) := rfl
def putl1 (i : Nat) (di : DE) : Res PV → Out
  | .ok y ρ => if isLstM ρ i = true then putl2 i y (di ρ) else .stuck
  | .exc c as ρ => .exc c as ρ
  | .stuck => .stuck
@[simp] theorem putl1_ok : putl1 i db (.ok y ρ) = if isLstM ρ i = true then putl2 i y (db ρ) else .stuck := rfl
@[simp] theorem e_sPut : sPut i d db ρ = putl1 i db (d ρ) := by
  unfold sPut putl1
  cases d ρ with
  | ok y ρ1 =>
    show (if isLstM ρ1 i = true then _ else _) = if isLstM ρ1 i = true then putl2 i y (db ρ1) else _
    by_cases h : isLstM ρ1 i = true
    · rw [if_pos h, if_pos h]
      cases db ρ1 with
      | ok k ρ2 =>
        show (match slotM ρ2 i, k with
          | some (.lst xs), .int j => _
          | _, _ => _) = putl3 i y ρ2 k (slotM ρ2 i)
        cases slotM ρ2 i with
        | none => cases k <;> rfl
        | some v =>
          cases v <;> cases k <;> rfl
      | _ => rfl
    · rw [if_neg h, if_neg h]
  | _ => rfl
def ixm3 (k : PV) (ρ : Rho) : Option PV → Res PV
  | some (.lst xs) => ofO (pIx (.lst xs) k) ρ
  | _ => .stuck
@[simp] theorem ixm3_l : ixm3 x ρ (some (.lst xs)) = ofO (pIx (.lst xs) x) ρ := rfl
def ixm2 (i : Nat) : Res PV → Res PV
  | .ok k ρ => ixm3 k ρ (slotM ρ i)
  | .exc c as ρ => .exc c as ρ
  | .stuck => .stuck
@[simp] theorem ixm2_ok : ixm2 i (.ok x ρ) = ixm3 x ρ (slotM ρ i) := rfl
@[simp] theorem e_dIxM : dIxM i d ρ = if isLstM ρ i = true then ixm2 i (d ρ) else .stuck := by
  unfold dIxM ixm2
  by_cases h : isLstM ρ i = true
  · rw [if_pos h, if_pos h]
    cases d ρ with
    | ok k ρ1 =>
      show (match slotM ρ1 i with
        | some (.lst xs) => _
        | _ => _) = ixm3 k ρ1 (slotM ρ1 i)
      cases slotM ρ1 i with
      | none => rfl
      | some v => cases v <;> rfl
    | _ => rfl
  · rw [if_neg h, if_neg h]
@[simp] theorem e_dIxA : dIxA i d ρ = if isVal ρ i = true then dBin pIx (dVar i) d ρ else dIxM i d ρ := rfl
def lenm : Option PV → Rho → Res PV
  | some (.lst xs), ρ => .ok (.int xs.length) ρ
  | _, _ => .stuck
@[simp] theorem lenm_l : lenm (some (.lst xs)) ρ = .ok (.int xs.length) ρ := rfl
@[simp] theorem e_dLenM : dLenM i ρ = lenm (slotM ρ i) ρ := by
  unfold dLenM lenm
  cases slotM ρ i with
  | none => rfl
  | some v => cases v <;> rfl
@[simp] theorem e_dLenA : dLenA i ρ = if isVal ρ i = true then dFun fLen (dCons (dVar i) dNil) ρ else dLenM i ρ := rfl
def calo3 (i : Nat) (ρ : Rho) : Option PV → Out
  | some c => .nx (ρ.set i (some (.own c)))
  | none => .stuck
@[simp] theorem calo3_s : calo3 i ρ (some x) = .nx (ρ.set i (some (.own x))) := rfl
def calo2 (i : Nat) (ω : List PV → Option PV) : Res (List PV) → Out
  | .ok xs ρ => calo3 i ρ (ω xs)
  | .exc c as ρ => .exc c as ρ
  | .stuck => .stuck
@[simp] theorem calo2_ok : calo2 i ω (.ok xs ρ) = calo3 i ρ (ω xs) := rfl
@[simp] theorem e_sCallO : sCallO i ω ds ρ = calo2 i ω (ds ρ) := by
  unfold sCallO calo2
  cases ds ρ with
  | ok xs ρ1 => show (match ω xs with | some c => _ | none => _) = calo3 i ρ1 (ω xs); cases ω xs <;> rfl
  | _ => rfl
def its3 (ρ : Rho) : PV → Res (List PV)
  | .lst xs => .ok xs ρ
  | .tup xs => .ok xs ρ
  | .str x => .ok (signsP x) ρ
  | _ => .stuck
@[simp] theorem its3_l : its3 ρ (.lst xs) = .ok xs ρ := rfl
@[simp] theorem its3_t : its3 ρ (.tup xs) = .ok xs ρ := rfl
@[simp] theorem its3_s : ∀ q : Str, its3 ρ (.str q) = .ok (signsP q) ρ := fun _ => rfl
def its2 : Res PV → Res (List PV)
  | .ok x ρ => its3 ρ x
  | .exc c as ρ => .exc c as ρ
  | .stuck => .stuck
@[simp] theorem its2_ok : its2 (.ok x ρ) = its3 ρ x := rfl
@[simp] theorem e_dItems : dItems d ρ = its2 (d ρ) := by
  unfold dItems its2
  cases d ρ with
  | ok x ρ1 => cases x <;> rfl
  | _ => rfl
def rg1 (ρ : Rho) : List PV → Res (List PV)
  | [.int j] => if -(2 ^ 62) ≤ j ∧ j < 2 ^ 62 then .ok (rangeL 0 j) ρ else .stuck
  | _ => .stuck
@[simp] theorem rg1_i {j : Int} : rg1 ρ [.int j] = if -(2 ^ 62) ≤ j ∧ j < 2 ^ 62 then .ok (rangeL 0 j) ρ else .stuck := rfl
def rga  : Res (List PV) → Res (List PV)
  | .ok xs ρ => rg1 ρ xs
  | .exc c as ρ => .exc c as ρ
  | .stuck => .stuck
@[simp] theorem e_rga : dRange1 ds ρ = rga  (ds ρ) := by
  unfold dRange1 rga
  cases ds ρ <;> first | rfl | (rename_i v _; cases v <;> rfl) | (dsimp only [Res.bind, Res.toOut]; split <;> rfl)
@[simp] theorem rga_exc : rga  (.exc c as ρ) = .exc c as ρ := rfl
@[simp] theorem rga_ok {xs : List PV} : rga  (.ok xs ρ) = rg1 ρ xs := rfl
def rg2 (ρ : Rho) : List PV → Res (List PV)
  | [.int i, .int j] => if -(2 ^ 62) ≤ i ∧ i < 2 ^ 62 ∧ -(2 ^ 62) ≤ j ∧ j < 2 ^ 62 then .ok (rangeL i j) ρ else .stuck
  | _ => .stuck
@[simp] theorem rg2_i {i j : Int} : rg2 ρ [.int i, .int j] = if -(2 ^ 62) ≤ i ∧ i < 2 ^ 62 ∧ -(2 ^ 62) ≤ j ∧ j < 2 ^ 62 then .ok (rangeL i j) ρ else .stuck := rfl
def rgb  : Res (List PV) → Res (List PV)
  | .ok xs ρ => rg2 ρ xs
  | .exc c as ρ => .exc c as ρ
  | .stuck => .stuck
@[simp] theorem e_rgb : dRange2 ds ρ = rgb  (ds ρ) := by
  unfold dRange2 rgb
  cases ds ρ <;> first | rfl | (rename_i v _; cases v <;> rfl) | (dsimp only [Res.bind, Res.toOut]; split <;> rfl)
@[simp] theorem rgb_exc : rgb  (.exc c as ρ) = .exc c as ρ := rfl
@[simp] theorem rgb_ok {xs : List PV} : rgb  (.ok xs ρ) = rg2 ρ xs := rfl
def en1 (ρ : Rho) : List PV → Res (List PV)
  | [.lst ps] => .ok (enumL 0 ps) ρ
  | _ => .stuck
@[simp] theorem en1_l : en1 ρ [.lst xs] = .ok (enumL 0 xs) ρ := rfl
def ena  : Res (List PV) → Res (List PV)
  | .ok xs ρ => en1 ρ xs
  | .exc c as ρ => .exc c as ρ
  | .stuck => .stuck
@[simp] theorem e_ena : dEnum ds ρ = ena  (ds ρ) := by
  unfold dEnum ena
  cases ds ρ <;> first | rfl | (rename_i v _; cases v <;> rfl) | (dsimp only [Res.bind, Res.toOut]; split <;> rfl)
@[simp] theorem ena_exc : ena  (.exc c as ρ) = .exc c as ρ := rfl
@[simp] theorem ena_ok {xs : List PV} : ena  (.ok xs ρ) = en1 ρ xs := rfl
def zi1 (ρ : Rho) : List PV → Res (List PV)
  | [.lst a, .lst b] => .ok (zipP a b) ρ
  | [.tup a, .tup b] => .ok (zipP a b) ρ
  | _ => .stuck
@[simp] theorem zi1_l : zi1 ρ [.lst xs, .lst ps] = .ok (zipP xs ps) ρ := rfl
@[simp] theorem zi1_t : zi1 ρ [.tup xs, .tup ps] = .ok (zipP xs ps) ρ := rfl
def zia  : Res (List PV) → Res (List PV)
  | .ok xs ρ => zi1 ρ xs
  | .exc c as ρ => .exc c as ρ
  | .stuck => .stuck
@[simp] theorem e_zia : dZip ds ρ = zia  (ds ρ) := by
  unfold dZip zia
  cases ds ρ <;> first | rfl | (rename_i v _; cases v <;> rfl) | (dsimp only [Res.bind, Res.toOut]; split <;> rfl)
@[simp] theorem zia_exc : zia  (.exc c as ρ) = .exc c as ρ := rfl
@[simp] theorem zia_ok {xs : List PV} : zia  (.ok xs ρ) = zi1 ρ xs := rfl
def comp3 (ps : List PV) (ρ : Rho) : Option (List PV) → Res PV
  | some ys => if ps.length ≤ LIM then .ok (.lst ys) ρ else .stuck
  | none => .stuck
@[simp] theorem comp3_s : comp3 ps ρ (some xs) = if ps.length ≤ LIM then .ok (.lst xs) ρ else .stuck := rfl
def comp2 (is : List Nat) (g : Tg) (t : DD Bool) (d : DE) : Res (List PV) → Res PV
  | .ok ps ρ => comp3 ps ρ (compL g t d (wipeR (valsOf ρ) is) ps)
  | .exc c as ρ => .exc c as ρ
  | .stuck => .stuck
@[simp] theorem e_comp2 : dComp is tg ds t d ρ = comp2 is tg t d (ds ρ) := by
  unfold dComp comp2
  cases ds ρ <;> first | rfl | (rename_i v _; cases v <;> rfl) | (dsimp only [Res.bind, Res.toOut]; split <;> rfl)
@[simp] theorem comp2_exc : comp2 is tg t d (.exc c as ρ) = .exc c as ρ := rfl
@[simp] theorem comp2_ok {ps : List PV} : comp2 is tg t d (.ok ps ρ) = comp3 ps ρ (compL tg t d (wipeR (valsOf ρ) is) ps) := rfl
@[simp] theorem e_dFmt : dFmt d ρ = dUn pFmt d ρ := rfl
def js3 (ds : List DE) (acc : Str) : Res PV → Res PV
  | .ok (.str y) ρ => if (acc ++ y).length ≤ LIM then dJ ds (acc ++ y) ρ else .stuck
  | .exc c as ρ => .exc c as ρ
  | _ => .stuck
variable {dsl : List DE} {acc : Str}
@[simp] theorem e_dJnil : dJ [] acc ρ = .ok (.str acc) ρ := rfl
@[simp] theorem e_dJcons : dJ (d :: dsl) acc ρ = js3 dsl acc (d ρ) := by
  show (d ρ).bind _ = js3 dsl acc (d ρ)
  unfold js3
  cases d ρ with
  | ok x ρ1 => cases x <;> rfl
  | _ => rfl
@[simp] theorem js3_ok {y : Str} : js3 dsl acc (.ok (.str y) ρ) = if (acc ++ y).length ≤ LIM then dJ dsl (acc ++ y) ρ else .stuck := rfl
@[simp] theorem e_dDic0 : dDic0 ρ = .ok (.dks [] []) ρ := rfl

def get13 (x : PV) : Res PV → Res PV
  | .ok y ρ => ofO (pGet1 x y) ρ
  | .exc c as ρ => .exc c as ρ
  | .stuck => .stuck
@[simp] theorem get13_ok : get13 x (.ok y ρ) = ofO (pGet1 x y) ρ := rfl
def get12 (db : DE) : Res PV → Res PV
  | .ok x ρ => if isDk x = true then get13 x (db ρ) else .stuck
  | .exc c as ρ => .exc c as ρ
  | .stuck => .stuck
@[simp] theorem get12_ok : get12 db (.ok x ρ) = if isDk x = true then get13 x (db ρ) else .stuck := rfl
@[simp] theorem e_dGet1 : dGet1 da db ρ = get12 db (da ρ) := by
  unfold dGet1 get12
  cases da ρ with
  | ok x ρ1 =>
    have e : (db ρ1).bind (fun y ρ => ofO (pGet1 x y) ρ) = get13 x (db ρ1) := by cases db ρ1 <;> rfl
    show (if isDk x = true then (db ρ1).bind _ else Res.stuck) = if isDk x = true then get13 x (db ρ1) else Res.stuck
    rw [e]
  | _ => rfl
def calb3 (ρ : Rho) : FR → Res PV
  | .ok r => if noD r = true then .ok r ρ else .stuck
  | _ => .stuck
@[simp] theorem calb3_ok : calb3 ρ (.ok x) = if noD x = true then .ok x ρ else .stuck := rfl
def calb2 (i : Nat) (φ : List PV → FR) (z : PV) (ρ : Rho) : Option PV → Res PV
  | some c => calb3 ρ (φ [z, c])
  | none => .stuck
@[simp] theorem calb2_s : calb2 i φ z ρ (some x) = calb3 ρ (φ [z, x]) := rfl
def calb1 (i : Nat) (φ : List PV → FR) : Res PV → Res PV
  | .ok z ρ => if isDkM ρ i = true then calb2 i φ z ρ (slotM ρ i) else .stuck
  | .exc c as ρ => .exc c as ρ
  | .stuck => .stuck
@[simp] theorem calb1_ok : calb1 i φ (.ok z ρ) = if isDkM ρ i = true then calb2 i φ z ρ (slotM ρ i) else .stuck := rfl
@[simp] theorem e_dCallB : dCallB i φ d ρ = calb1 i φ (d ρ) := by
  unfold dCallB calb1
  cases d ρ with
  | ok z ρ1 =>
    show (if isDkM ρ1 i = true then _ else _) = if isDkM ρ1 i = true then calb2 i φ z ρ1 (slotM ρ1 i) else _
    by_cases h : isDkM ρ1 i = true
    · rw [if_pos h, if_pos h]
      cases slotM ρ1 i with
      | none => rfl
      | some c => show (match φ [z, c] with | .ok r => _ | _ => _) = calb3 ρ1 (φ [z, c]); cases φ [z, c] <;> rfl
    · rw [if_neg h, if_neg h]
  | _ => rfl
@[simp] theorem e_sNewD : sNewD i ρ = .nx (ρ.set i (some (.own (.dks [] [])))) := rfl
def puts4 (i : Nat) (ρ : Rho) : Option PV → Out
  | some c => .nx (putM ρ i c)
  | none => .stuck
@[simp] theorem puts4_s : puts4 i ρ (some x) = .nx (putM ρ i x) := rfl
def puts3 (i : Nat) (y k : PV) (ρ : Rho) : Option PV → Out
  | some c => puts4 i ρ (putDk c k y)
  | none => .stuck
@[simp] theorem puts3_s : puts3 i y z ρ (some x) = puts4 i ρ (putDk x z y) := rfl
def puts2 (i : Nat) (y : PV) : Res PV → Out
  | .ok k ρ => puts3 i y k ρ (slotM ρ i)
  | .exc c as ρ => .exc c as ρ
  | .stuck => .stuck
@[simp] theorem puts2_ok : puts2 i y (.ok x ρ) = puts3 i y x ρ (slotM ρ i) := rfl
def puts1 (i : Nat) (dk : DE) : Res PV → Out
  | .ok y ρ => if isDkM ρ i = true then puts2 i y (dk ρ) else .stuck
  | .exc c as ρ => .exc c as ρ
  | .stuck => .stuck
@[simp] theorem puts1_ok : puts1 i d (.ok y ρ) = if isDkM ρ i = true then puts2 i y (d ρ) else .stuck := rfl
@[simp] theorem e_sPutS : sPutS i da db ρ = puts1 i da (db ρ) := by
  unfold sPutS puts1
  cases db ρ with
  | ok y ρ1 =>
    show (if isDkM ρ1 i = true then _ else _) = if isDkM ρ1 i = true then puts2 i y (da ρ1) else _
    by_cases h : isDkM ρ1 i = true
    · rw [if_pos h, if_pos h]
      cases da ρ1 with
      | ok k ρ2 =>
        show (match slotM ρ2 i with | some c => _ | none => _) = puts3 i y k ρ2 (slotM ρ2 i)
        cases slotM ρ2 i with
        | none => rfl
        | some c => show (match putDk c k y with | some c' => _ | none => _) = puts4 i ρ2 (putDk c k y); cases putDk c k y <;> rfl
      | _ => rfl
    · rw [if_neg h, if_neg h]
  | _ => rfl
def try2 (n : List Nat) (sub : Nat → Nat → Bool) (hs : List (Nat × DS)) : Out → Out
  | .exc c as ρ => if n.contains c = true then hndl sub hs c as ρ else .stuck
  | o => o
variable {is : List Nat} {sub : Nat → Nat → Bool} {hs : List (Nat × DS)}
@[simp] theorem e_sTry : sTry is sub s hs ρ = try2 is sub hs (s ρ) := by
  unfold sTry try2
  cases s ρ <;> rfl
@[simp] theorem try2_nx : try2 is sub hs (.nx ρ) = .nx ρ := rfl
@[simp] theorem try2_rt : try2 is sub hs (.rt p ρ) = .rt p ρ := rfl
@[simp] theorem try2_exc : try2 is sub hs (.exc c as ρ) = if is.contains c = true then hndl sub hs c as ρ else .stuck := rfl
def tryl2 (c i j : Nat) (sub : Nat → Nat → Bool) (n : List Nat) : Out → Out
  | .exc c' as ρ => if n.contains c' = true then (if sub c' c = true then lineK c i j c' ρ as else .exc c' as ρ) else .stuck
  | o => o
@[simp] theorem e_sTryL : sTryL c i j sub is s ρ = tryl2 c i j sub is (s ρ) := by
  unfold sTryL tryl2
  cases s ρ <;> rfl
@[simp] theorem tryl2_nx : tryl2 c i j sub is (.nx ρ) = .nx ρ := rfl
@[simp] theorem tryl2_rt : tryl2 c i j sub is (.rt p ρ) = .rt p ρ := rfl
@[simp] theorem tryl2_exc : tryl2 c i j sub is (.exc n as ρ) = if is.contains n = true then (if sub n c = true then lineK c i j n ρ as else .exc n as ρ) else .stuck := rfl
@[simp] theorem lineK_1 : lineK c i j n ρ [x] = if n = c ∧ i < ρ.length then .nx ((ρ.set j (some (.val x))).set i none) else .stuck := rfl
end
section
variable {i j : Int} {x y z : PV} {xs ys : List PV} {b c : Bool} {s t : Str}
@[simp] theorem pAdd_i : pAdd (.int i) (.int j) = some (.int (i + j)) := rfl
@[simp] theorem pAdd_l : pAdd (.lst xs) (.lst ys) = if xs.length + ys.length ≤ LIM then some (.lst (xs ++ ys)) else none := rfl
@[simp] theorem pAdd_t : pAdd (.tup xs) (.tup ys) = if xs.length + ys.length ≤ LIM then some (.tup (xs ++ ys)) else none := rfl
@[simp] theorem pAdd_s : pAdd (.str s) (.str t) = if s.length + t.length ≤ LIM then some (.str (s ++ t)) else none := rfl
@[simp] theorem pSub_i : pSub (.int i) (.int j) = some (.int (i - j)) := rfl
@[simp] theorem pMod_i (h : 0 < j) : pMod (.int i) (.int j) = some (.int (i % j)) := if_pos h
theorem pMul_s (h : j.natAbs < 2 ^ 63 ∨ i.natAbs < 2 ^ 63) : pMul (.int i) (.int j) = some (.int (i * j)) := if_pos (.inr h)
theorem pDiv_s (h : 0 < j) (h2 : j.natAbs < 2 ^ 8000) : pDiv (.int i) (.int j) = some (.int (i / j)) := by
  refine if_pos ⟨h, ?_⟩
  have : j.natAbs.log2 < 8000 := (Nat.log2_lt (by omega)).mpr h2
  omega
@[simp] theorem pNeg_i : pNeg (.int i) = some (.int (-i)) := rfl
@[simp] theorem pLt_i : pLt (.int i) (.int j) = some (.bl (decide (i < j))) := rfl
@[simp] theorem pLe_i : pLe (.int i) (.int j) = some (.bl (decide (i ≤ j))) := rfl
@[simp] theorem pGt_i : pGt (.int i) (.int j) = some (.bl (decide (j < i))) := rfl
@[simp] theorem pGe_i : pGe (.int i) (.int j) = some (.bl (decide (j ≤ i))) := rfl
@[simp] theorem pEq_i : pEq (.int i) (.int j) = some (.bl (decide (i = j))) := rfl
@[simp] theorem pNe_i : pNe (.int i) (.int j) = some (.bl (!decide (i = j))) := rfl
@[simp] theorem pEq_b : pEq (.bl b) (.bl c) = some (.bl (b == c)) := by cases b <;> cases c <;> rfl
@[simp] theorem pNe_b : pNe (.bl b) (.bl c) = some (.bl (!(b == c))) := by cases b <;> cases c <;> rfl
@[simp] theorem pIsN_n : pIsN x .non = some (.bl (isN x)) := rfl
@[simp] theorem pNotN_n : pNotN x .non = some (.bl (!isN x)) := rfl
@[simp] theorem isN_n : isN .non = true := rfl
@[simp] theorem isN_i : isN (.int i) = false := rfl
@[simp] theorem isN_s : isN (.str s) = false := rfl
@[simp] theorem isN_t : isN (.tup xs) = false := rfl
@[simp] theorem isN_l : isN (.lst xs) = false := rfl
@[simp] theorem isN_b : isN (.bl b) = false := rfl
@[simp] theorem asB_b : asB (.bl b) = some b := rfl
@[simp] theorem truth_b : truth (.bl b) = some b := rfl
@[simp] theorem truth_i : truth (.int i) = some (i != 0) := rfl
@[simp] theorem truth_n : truth .non = some false := rfl
@[simp] theorem truth_t : truth (.tup xs) = some !xs.isEmpty := rfl
@[simp] theorem truth_l : truth (.lst xs) = some !xs.isEmpty := rfl
@[simp] theorem fLen_l : fLen [.lst xs] = some (.int xs.length) := rfl
@[simp] theorem fLen_t : fLen [.tup xs] = some (.int xs.length) := rfl
@[simp] theorem fIntA_i : fIntA [.int i] = some (.int i) := rfl
@[simp] theorem fIntA_b : fIntA [.bl b] = some (.int (if b then 1 else 0)) := rfl
@[simp] theorem fTuple_l : fTuple [.lst xs] = some (.tup xs) := rfl
@[simp] theorem fMax2_i : fMax2 [.int i, .int j] = some (.int (if j > i then j else i)) := rfl
@[simp] theorem fMin2_i : fMin2 [.int i, .int j] = some (.int (if j < i then j else i)) := rfl
@[simp] theorem pIx_l : pIx (.lst xs) (.int i) = atI xs i := rfl
@[simp] theorem pIx_t : pIx (.tup xs) (.int i) = atI xs i := rfl
@[simp] theorem pIsi_int : pIsi "int" (.int i) = some (.bl true) := rfl
@[simp] theorem pStarts_s : pStarts (.str s) (.str t) = some (.bl (Txt.startswith s t)) := rfl
@[simp] theorem pIn_s : pIn (.str s) (.str t) = some (.bl (inStr s t)) := rfl
@[simp] theorem pNotIn_s : pNotIn (.str s) (.str t) = some (.bl (!inStr s t)) := rfl
@[simp] theorem pSplit_s : pSplit (.str s) (.str t) = if (t.length == 0) = false ∧ s.length + 2 ≤ LIM then some (.lst ((Txt.split s t).map .str)) else none := rfl
@[simp] theorem truth_s : truth (.str s) = if s.length ≤ 1000000 then some ((s.length : Int) != 0) else none := rfl
@[simp] theorem isDk_d : isDk (.dks xs ys) = true := rfl
@[simp] theorem tyes_e {ρ : Rho} : tyesD ρ = .ok true ρ := rfl
theorem at_nat {α : Type} {l : List α} {n : Nat} : atI l (n : Int) = l[n]? := by
  unfold atI ixN
  by_cases h : n < l.length
  · have h2 : (n : Int) < (l.length : Int) := by omega
    simp [h2]
  · have h2 : ¬ (n : Int) < (l.length : Int) := by omega
    simp [h2, h]
@[simp] theorem at_0 {α : Type} {a : α} {l : List α} : atI (a :: l) 0 = some a := by
  have := at_nat (l := a :: l) (n := 0)
  simpa using this
@[simp] theorem at_1 {α : Type} {a b : α} {l : List α} : atI (a :: b :: l) 1 = some b := by
  have := at_nat (l := a :: b :: l) (n := 1)
  simpa using this
@[simp] theorem at_2 {α : Type} {a b c : α} {l : List α} : atI (a :: b :: c :: l) 2 = some c := by
  have := at_nat (l := a :: b :: c :: l) (n := 2)
  simpa using this
@[simp] theorem at_3 {α : Type} {a b c d : α} {l : List α} : atI (a :: b :: c :: d :: l) 3 = some d := by
  have := at_nat (l := a :: b :: c :: d :: l) (n := 3)
  simpa using this
@[simp] theorem at_4 {α : Type} {a b c d e : α} {l : List α} : atI (a :: b :: c :: d :: e :: l) 4 = some e := by
  have := at_nat (l := a :: b :: c :: d :: e :: l) (n := 4)
  simpa using this
end
/-! ### loops -/
theorem forL_append {g : Tg} {d : DS} : ∀ {ps qs : List PV} {ρ ρ' : Rho}, forL g d ps ρ = .nx ρ' → forL g d (ps ++ qs) ρ = forL g d qs ρ'
  | [], qs, ρ, ρ', h => by cases h; rfl
  | p :: ps, qs, ρ, ρ', h => by
    unfold forL at h
    show (match g.set p ρ with
      | some ρ1 => (d ρ1).thn (forL g d (ps ++ qs))
      | none => .stuck) = _
    cases e : g.set p ρ with
    | none => rw [e] at h; cases h
    | some ρ1 =>
      rw [e] at h
      dsimp only at h ⊢
      cases ed : d ρ1 with
      | nx ρ2 => rw [ed] at h; exact forL_append h
      | rt p ρ2 => rw [ed] at h; cases h
      | exc c as ρ2 => rw [ed] at h; cases h
      | stuck => rw [ed] at h; cases h
theorem forL_exc {g : Tg} {d : DS} {p : PV} {ps : List PV} {ρ ρ1 ρ2 : Rho} {c : Nat} {as : List PV} (h : g.set p ρ = some ρ1) (h2 : d ρ1 = .exc c as ρ2) : forL g d (p :: ps) ρ = .exc c as ρ2 := by
  unfold forL
  rw [h]
  simp only [h2, Out.thn]
theorem forL_nx {g : Tg} {d : DS} {p : PV} {ps : List PV} {ρ ρ1 ρ2 : Rho} (h : g.set p ρ = some ρ1) (h2 : d ρ1 = .nx ρ2) : forL g d (p :: ps) ρ = forL g d ps ρ2 := by
  show (match g.set p ρ with
      | some ρ1 => (d ρ1).thn (forL g d ps)
      | none => .stuck) = _
  rw [h]
  simp only [h2, Out.thn]
theorem forL_rt {g : Tg} {d : DS} {p q : PV} {ps : List PV} {ρ ρ1 ρ2 : Rho} (h : g.set p ρ = some ρ1) (h2 : d ρ1 = .rt q ρ2) : forL g d (p :: ps) ρ = .rt q ρ2 := by
  unfold forL
  rw [h]
  simp only [h2, Out.thn]
@[simp] theorem forL_nil {g : Tg} {d : DS} {ρ : Rho} : forL g d [] ρ = .nx ρ := rfl
end Pl

set_option maxHeartbeats 4000000
/-! what the defs of the text and of the law mean (printed by gen.py). -/
namespace Pl
open PySem PySem.Spec PyProof.Rows L2

set_option genInjectivity false in
set_option genSizeOfSpec false in
structure Env where
  p_is_whole : List PV → FR
  p_are_numbers : List PV → FR
  p_is_nested : List PV → FR
  p_is_region : List PV → FR
  p_is_colour : List PV → FR
  p_number_of : List PV → FR
  p_numbers_of : List PV → FR
  p_cut : List PV → FR
  p_plain_in : List PV → FR
  p_moved_in : List PV → FR
  p_region_in : List PV → FR
  p_brackets : List PV → FR
  p_good_region : List PV → FR
  p_read : List PV → FR
  p_head_and_region : List PV → FR
  p_is_name : List PV → FR
  p_read_picture : List PV → FR
  o_l_begin : List PV → Option PV
  i_l_draw : PV → List PV → FRI
  p_l_bad : List PV → FR
  p_l_line : List PV → FR
  p_law_k10 : List PV → FR
def tb_PLAIN : List (Str × PV) := [("all", (.tup [])), ("none", (.tup [])), ("high", (.tup [(.str "a")])), ("wide", (.tup [(.str "a")])), ("rows", (.tup [(.str "a"), (.str "k")])), ("rows_up", (.tup [(.str "a"), (.str "k")])), ("cols", (.tup [(.str "a"), (.str "k")])), ("cols_back", (.tup [(.str "a"), (.str "k")])), ("border", (.tup [(.str "a")]))]

def tb_INNER : List (Str × PV) := [("and", (.int 2)), ("or", (.int 2)), ("not", (.int 1)), ("mirror", (.int 1)), ("flip", (.int 1)), ("turn", (.int 1))]

def SUB (c k : Nat) : Bool := c == k || k == 0

def d_is_whole (E : Env) : DS :=
  (sRet (dAndV (dIsi "int" (dVar 0)) (dAndV (dNotV (dIsi "bool" (dVar 0))) (dChain pLe pLe (dVar 1) (dVar 0) (dVar 2)))))
@[reducible] def c_are_numbers_0 (E : Env) : DE :=
  (dCall E.p_is_whole (dCons (dVar 3) (dCons (dC (.int 0)) (dCons (dIf (dAsB (dBin pEq (dVar 2) (dC (.str "a")))) (dC (.int 9)) (dC (.int 6))) dNil))))
def d_are_numbers (E : Env) : DS :=
  (sSeq (sIf (dAsB (dBin pNe (dFun fLen (dCons (dVar 1) dNil)) (dFun fLen (dCons (dVar 0) dNil)))) (sRet (dC (.bl false))) sNil)
    (sRet (dFun fAll (dCons (dComp [2, 3] (.tup [2, 3]) (dZip (dCons (dVar 0) (dCons (dVar 1) dNil))) tyesD (c_are_numbers_0 E)) dNil))))
@[reducible] def c_is_nested_0 (E : Env) : DE :=
  (dCall E.p_is_nested (dCons (dVar 2) (dCons (dBin pSub (dVar 1) (dC (.int 1))) dNil)))
@[reducible] def c_is_nested_1 (E : Env) : DE :=
  (dCall E.p_is_whole (dCons (dVar 2) (dCons (dUn pNeg (dC (.int 6))) (dCons (dC (.int 6)) dNil))))
def d_is_nested (E : Env) : DS :=
  (sSeq (sIf (dOr (dAsB (dBin pEq (dVar 1) (dC (.int 0)))) (dOr (dNot (dTru (dIsi "tuple" (dVar 0)))) (dOr (dNot (dTru (dVar 0))) (dNot (dTru (dIsi "str" (dBin pIx (dVar 0) (dC (.int 0))))))))) (sRet (dC (.bl false))) sNil)
    (sSeq (sIf (dAsB (dUn (pInT tb_PLAIN) (dBin pIx (dVar 0) (dC (.int 0))))) (sRet (dCall E.p_are_numbers (dCons (dGetT tb_PLAIN (dBin pIx (dVar 0) (dC (.int 0)))) (dCons (dSl (dVar 0) (some (dC (.int 1))) none) dNil)))) sNil)
    (sSeq (sIf (dAsB (dUn (pInT tb_INNER) (dBin pIx (dVar 0) (dC (.int 0))))) (sRet (dAndV (dBin pEq (dFun fLen (dCons (dVar 0) dNil)) (dBin pAdd (dC (.int 1)) (dGetT tb_INNER (dBin pIx (dVar 0) (dC (.int 0)))))) (dFun fAll (dCons (dComp [2] (.one 2) (dItems (dSl (dVar 0) (some (dC (.int 1))) none)) tyesD (c_is_nested_0 E)) dNil)))) sNil)
    (sSeq (sIf (dOr (dAsB (dBin pNe (dBin pIx (dVar 0) (dC (.int 0))) (dC (.str "move")))) (dOr (dAsB (dBin pNe (dFun fLen (dCons (dVar 0) dNil)) (dC (.int 4)))) (dNot (dTru (dFun fAll (dCons (dComp [2] (.one 2) (dItems (dSl (dVar 0) (some (dC (.int 1))) (some (dC (.int 3))))) tyesD (c_is_nested_1 E)) dNil)))))) (sRet (dC (.bl false))) sNil)
    (sRet (dCall E.p_is_nested (dCons (dBin pIx (dVar 0) (dC (.int 3))) (dCons (dBin pSub (dVar 1) (dC (.int 1))) dNil))))))))
def d_is_region (E : Env) : DS :=
  (sRet (dCall E.p_is_nested (dCons (dVar 0) (dCons (dC (.int 8)) dNil))))
@[reducible] def c_is_colour_0 (E : Env) : DE :=
  (dBin pIn (dVar 1) (dC (.str "abcdefghijklmnopqrstuvwxyz")))
def d_is_colour (E : Env) : DS :=
  (sRet (dAndV (dIsi "str" (dVar 0)) (dAndV (dChain pLe pLe (dC (.int 1)) (dFun fLen (dCons (dVar 0) dNil)) (dC (.int 6))) (dFun fAll (dCons (dComp [1] (.one 1) (dItems (dVar 0)) tyesD (c_is_colour_0 E)) dNil)))))
def d_number_of (E : Env) : DS :=
  (sSeq (sSet 1 (dIf (dAsB (dBin pEq (dSl (dVar 0) none (some (dC (.int 1)))) (dC (.str "-")))) (dSl (dVar 0) (some (dC (.int 1))) none) (dVar 0)))
    (sSeq (sIf (dOr (dAsB (dBin pNe (dFun fLen (dCons (dVar 1) dNil)) (dC (.int 1)))) (dOr (dAsB (dBin pNotIn (dVar 1) (dC (.str "0123456789")))) (dAsB (dBin pEq (dVar 0) (dC (.str "-0")))))) (sRet (dC .non)) sNil)
    (sRet (dFun fIntA (dCons (dVar 0) dNil)))))
@[reducible] def c_numbers_of_0 (E : Env) : DE :=
  (dCall E.p_number_of (dCons (dVar 2) dNil))
def d_numbers_of (E : Env) : DS :=
  (sSeq (sSet 1 (dComp [2] (.one 2) (dItems (dVar 0)) tyesD (c_numbers_of_0 E)))
    (sRet (dIf (dAsB (dBin pIn (dC .non) (dVar 1))) (dC .non) (dVar 1))))
@[reducible] def t_cut_0 (E : Env) : DD Bool :=
  (dAsB (dBin pLt (dVar 3) (dFun fLen (dCons (dVar 0) dNil))))
@[reducible] def w_cut_1 (E : Env) : DS :=
  (sSeq (sSet 4 (dBin pIx (dVar 0) (dVar 3)))
    (sSeq (sAug 2 pIpAdd (dPickG [("(", (dC (.int 1))), (")", (dC (.int (-1))))] (dVar 4) (dC (.int 0))))
    (sSeq (sIf (dAsB (dBin pLt (dVar 2) (dC (.int 0)))) (sRet (dC .non)) sNil)
    (sIf (dAnd (dAsB (dBin pEq (dVar 2) (dC (.int 0)))) (dAsB (dBin pEq (dSl (dVar 0) (some (dVar 3)) (some (dBin pAdd (dVar 3) (dC (.int 2))))) (dC (.str ", "))))) (sSeq (sApp' 1 (dC (.str "")))
    (sAug 3 pIpAdd (dC (.int 2)))) (sSeq (sPut 1 (dBin pAdd (dIxA 1 (dUn pNeg (dC (.int 1)))) (dVar 4)) (dUn pNeg (dC (.int 1))))
    (sAug 3 pIpAdd (dC (.int 1))))))))
def d_cut (E : Env) : DS :=
  (sSeq (sNewL 1 (dCons (dC (.str "")) dNil))
    (sSeq (sSet 2 (dC (.int 0)))
    (sSeq (sSet 3 (dC (.int 0)))
    (sSeq (whileL (t_cut_0 E) (w_cut_1 E) 1000000)
    (sRet (dIf (dAsB (dBin pEq (dVar 2) (dC (.int 0)))) (dRd 1) (dC .non)))))))
def d_plain_in (E : Env) : DS :=
  (sSeq (sSet 2 (dBinS pSplit (dVar 0) (dC (.str " "))))
    (sSeq (sIf (dAsB (dUn (pInT tb_PLAIN) (dBin pIx (dVar 2) (dC (.int 0))))) (sSeq (sSet 3 (dCall E.p_numbers_of (dCons (dSl (dVar 2) (some (dC (.int 1))) none) dNil)))
    (sRet (dIf (dAsB (dBin pIsN (dVar 3) (dC .non))) (dC .non) (dBin pAdd (dTup (dCons (dBin pIx (dVar 2) (dC (.int 0))) dNil)) (dFun fTuple (dCons (dVar 3) dNil)))))) sNil)
    (sRet (dGet1 (dVar 1) (dVar 0)))))
def d_moved_in (E : Env) : DS :=
  (sSeq (sSet 2 (dCall E.p_numbers_of (dCons (dBinS pSplit (dBin pIx (dVar 0) (dC (.int 0))) (dC (.str " "))) dNil)))
    (sSeq (sSet 3 (dIf (dAsB (dBin pEq (dFun fLen (dCons (dVar 0) dNil)) (dC (.int 2)))) (dCall E.p_region_in (dCons (dBin pIx (dVar 0) (dC (.int 1))) (dCons (dVar 1) dNil))) (dC .non)))
    (sSeq (sIf (dOr (dAsB (dBin pIsN (dVar 2) (dC .non))) (dOr (dAsB (dBin pNe (dFun fLen (dCons (dVar 2) dNil)) (dC (.int 2)))) (dAsB (dBin pIsN (dVar 3) (dC .non))))) (sRet (dC .non)) sNil)
    (sRet (dTup (dCons (dC (.str "move")) (dCons (dBin pIx (dVar 2) (dC (.int 0))) (dCons (dBin pIx (dVar 2) (dC (.int 1))) (dCons (dVar 3) dNil)))))))))
@[reducible] def c_region_in_0 (E : Env) : DE :=
  (dCall E.p_region_in (dCons (dVar 5) (dCons (dVar 1) dNil)))
def d_region_in (E : Env) : DS :=
  (sSeq (sSet 2 (dBin pIx (dBinS pSplit (dVar 0) (dC (.str "("))) (dC (.int 0))))
    (sSeq (sIf (dAsB (dBin pNotIn (dC (.str "(")) (dVar 0))) (sRet (dCall E.p_plain_in (dCons (dVar 0) (dCons (dVar 1) dNil)))) sNil)
    (sSeq (sSet 3 (dIf (dAsB (dBin pEq (dBin pIx (dVar 0) (dUn pNeg (dC (.int 1)))) (dC (.str ")")))) (dCall E.p_cut (dCons (dSl (dVar 0) (some (dBin pAdd (dFun fLen (dCons (dVar 2) dNil)) (dC (.int 1)))) (some (dUn pNeg (dC (.int 1))))) dNil)) (dC .non)))
    (sSeq (sIf (dAsB (dBin pIsN (dVar 3) (dC .non))) (sRet (dC .non)) sNil)
    (sSeq (sIf (dAsB (dBin pEq (dVar 2) (dC (.str "move")))) (sRet (dCall E.p_moved_in (dCons (dVar 3) (dCons (dVar 1) dNil)))) sNil)
    (sSeq (sIf (dOr (dAsB (dUn (pNotInT tb_INNER) (dVar 2))) (dAsB (dBin pNe (dFun fLen (dCons (dVar 3) dNil)) (dGetT tb_INNER (dVar 2))))) (sRet (dC .non)) sNil)
    (sSeq (sSet 4 (dComp [5] (.one 5) (dItems (dVar 3)) tyesD (c_region_in_0 E)))
    (sRet (dIf (dAsB (dBin pIn (dC .non) (dVar 4))) (dC .non) (dBin pAdd (dTup (dCons (dVar 2) dNil)) (dFun fTuple (dCons (dVar 4) dNil))))))))))))
@[reducible] def b_brackets_0 (E : Env) : DS :=
  (sSeq (sAug 2 pIpAdd (dPickG [("(", (dC (.int 1))), (")", (dC (.int (-1))))] (dVar 3) (dC (.int 0))))
    (sSet 1 (dFun fMax2 (dCons (dVar 1) (dCons (dVar 2) dNil)))))
def d_brackets (E : Env) : DS :=
  (sSeq (sAsg (.tup [1, 2]) (dTup (dCons (dC (.int 0)) (dCons (dC (.int 0)) dNil))))
    (sSeq (sFor (.one 3) (dItems (dVar 0)) (b_brackets_0 E))
    (sRet (dVar 1))))
def d_good_region (E : Env) : DS :=
  (sSeq (sSet 2 (dIf (dAnd (dTru (dVar 0)) (dAsB (dBin pLe (dCall E.p_brackets (dCons (dVar 0) dNil)) (dC (.int 8))))) (dCall E.p_region_in (dCons (dVar 0) (dCons (dVar 1) dNil))) (dC .non)))
    (sRet (dIf (dAnd (dAsB (dBin pNotN (dVar 2) (dC .non))) (dTru (dCall E.p_is_region (dCons (dVar 2) dNil)))) (dVar 2) (dC .non))))
def d_read (E : Env) : DS :=
  (sSeq (sSet 1 (dCall E.p_good_region (dCons (dVar 0) (dCons dDic0 dNil))))
    (sSeq (sIf (dAsB (dBin pIsN (dVar 1) (dC .non))) (sRaise 6) sNil)
    (sRet (dVar 1))))
def d_head_and_region (E : Env) : DS :=
  (sSeq (sIf (dAnd (dTru (dBinS pStarts (dVar 0) (dC (.str "let ")))) (dAsB (dBin pIn (dC (.str " = ")) (dVar 0)))) (sSeq (sSet 2 (dBinS pIndex (dVar 0) (dC (.str " = "))))
    (sPar 3 4 (dCons (dSl (dVar 0) (some (dFun fLen (dCons (dC (.str "let ")) dNil))) (some (dVar 2))) (dCons (dSl (dVar 0) (some (dBin pAdd (dVar 2) (dFun fLen (dCons (dC (.str " = ")) dNil)))) none) dNil)))) (sPar 3 4 (dCons (dBin pIx (dBinS pSplit (dVar 0) (dC (.str " "))) (dC (.int 0))) (dCons (dSl (dVar 0) (some (dBin pAdd (dFun fLen (dCons (dBin pIx (dBinS pSplit (dVar 0) (dC (.str " "))) (dC (.int 0))) dNil)) (dC (.int 1)))) none) dNil))))
    (sRet (dTup (dCons (dIf (dTru (dCall E.p_is_colour (dCons (dVar 3) dNil))) (dVar 3) (dC .non)) (dCons (dCall E.p_good_region (dCons (dVar 4) (dCons (dVar 1) dNil))) dNil)))))
def d_is_name (E : Env) : DS :=
  (sRet (dAndV (dBin pNotN (dVar 0) (dC .non)) (dAndV (dBin pNotIn (dVar 0) (dC (.tup [(.str "all"), (.str "none"), (.str "high"), (.str "wide"), (.str "rows"), (.str "rows_up"), (.str "cols"), (.str "cols_back"), (.str "border"), (.str "and"), (.str "or"), (.str "not"), (.str "mirror"), (.str "flip"), (.str "turn"), (.str "move")]))) (dBin pNe (dVar 0) (dC (.str "let"))))))
@[reducible] def b_read_picture_0 (E : Env) : DS :=
  (sSeq (sAsg (.tup [5, 6]) (dCallB 1 E.p_head_and_region (dVar 4)))
    (sSeq (sSet 7 (dAndV (dBinS pStarts (dVar 4) (dC (.str "let "))) (dBin pIn (dC (.str " = ")) (dVar 4))))
    (sSeq (sIf (dOr (dAsB (dBin pIsN (dVar 5) (dC .non))) (dOr (dAsB (dBin pIsN (dVar 6) (dC .non))) (dAnd (dTru (dVar 7)) (dNot (dTru (dCall E.p_is_name (dCons (dVar 5) dNil))))))) (sRaiseA 7 (dBin pAdd (dVar 3) (dC (.int 1)))) sNil)
    (sIf (dTru (dVar 7)) (sPutS 1 (dVar 5) (dVar 6)) (sIf (dAsB (dBin pEq (dLenA 2) (dC (.int 6)))) (sRaiseA 7 (dBin pAdd (dVar 3) (dC (.int 1)))) (sApp' 2 (dTup (dCons (dVar 5) (dCons (dVar 6) dNil)))))))))
def d_read_picture (E : Env) : DS :=
  (sSeq (sNewD 1)
    (sSeq (sNewL 2 dNil)
    (sSeq (sFor (.tup [3, 4]) (dEnum (dCons (dIf (dTru (dVar 0)) (dBinS pSplit (dVar 0) (dC (.str "\n"))) (dLst dNil)) dNil)) (b_read_picture_0 E))
    (sRet (dFun fTuple (dCons (dRd 2) dNil))))))
def d_l_begin (E : Env) : DD (List PV) :=
  (dCons (dFun fList (dCons (dVar 0) dNil)) (dCons (dC (.int 0)) (dCons (dC (.int 0)) (dCons (dC (.int 7)) dNil))))
def d_l_draw (E : Env) : DS :=
  (sSeq (sIf (dAsB (dBin pEq (dIxM 0 (dC (.int 2))) (dC (.int 0)))) (sIf (dAsB (dBin pLt (dIxM 0 (dC (.int 1))) (dFun fLen (dCons (dIxM 0 (dC (.int 0))) dNil)))) (sSeq (sSet 2 (dBin pIx (dIxM 0 (dC (.int 0))) (dIxM 0 (dC (.int 1)))))
    (sSeq (sPut 0 (dBin pAdd (dIxM 0 (dC (.int 1))) (dC (.int 1))) (dC (.int 1)))
    (sIf (dAsB (dBin pGe (dVar 2) (dBin pPow (dC (.int 10)) (dC (.int 18))))) (sPut 0 (dVar 2) (dC (.int 2))) (sPut 0 (dBin pMod (dFun fIntA (dCons (dBin pAdd (dBin pAdd (dBin pMul (dIxM 0 (dC (.int 3))) (dC (.int 48271))) (dBin pMul (dVar 2) (dC (.int 69621)))) (dC (.int 11))) dNil)) (dC (.int 2147483647))) (dC (.int 3)))))) (sPut 0 (dBin pMod (dFun fIntA (dCons (dBin pAdd (dBin pMul (dIxM 0 (dC (.int 3))) (dC (.int 48271))) (dC (.int 7))) dNil)) (dC (.int 2147483647))) (dC (.int 3)))) sNil)
    (sSeq (sIf (dAsB (dBin pGt (dIxM 0 (dC (.int 2))) (dC (.int 0)))) (sSeq (sSet 3 (dBin pMod (dFun fIntA (dCons (dIxM 0 (dC (.int 2))) dNil)) (dVar 1)))
    (sSeq (sPut 0 (dBin pDiv (dIxM 0 (dC (.int 2))) (dVar 1)) (dC (.int 2)))
    (sRet (dVar 3)))) sNil)
    (sRet (dBin pMod (dBin pMod (dFun fIntA (dCons (dBin pMul (dIxM 0 (dC (.int 3))) (dC (.int 16807))) dNil)) (dC (.int 2147483629))) (dVar 1)))))
def d_l_bad (E : Env) : DS :=
  (sSeq (sSet 1 (dC (.bl false)))
    (sSeq (sTry [6] SUB (sExpr (dCall E.p_read (dCons (dVar 0) dNil))) [(6, (sSet 1 (dC (.bl true))))])
    (sRet (dVar 1))))
def d_l_line (E : Env) : DS :=
  (sSeq (sSet 1 (dC .non))
    (sSeq (sTryL 7 2 1 SUB [7] (sExpr (dCall E.p_read_picture (dCons (dVar 0) dNil))))
    (sRet (dVar 1))))
@[reducible] def s0_law_k10 (E : Env) : DS :=
  (sCallO 1 E.o_l_begin (dCons (dVar 0) dNil))
@[reducible] def s1_law_k10 (E : Env) : DS :=
  (sSet 2 (dLst (dCons (dC (.str "")) (dCons (dC (.str "rows")) (dCons (dC (.str "rows 0")) (dCons (dC (.str "rows 0 1 2")) (dCons (dC (.str "rows 0 7")) (dCons (dC (.str "rows 10 1")) (dCons (dC (.str "rows 00 1")) (dCons (dC (.str "rows -0 1")) (dCons (dC (.str "rows -1 1")) dNil)))))))))))
@[reducible] def s2_law_k10 (E : Env) : DS :=
  (sSet 2 (dBin pAdd (dVar 2) (dLst (dCons (dC (.str "Rows 0 1")) (dCons (dC (.str "rows  0 1")) (dCons (dC (.str " all")) (dCons (dC (.str "all ")) (dCons (dC (.str "all()")) (dCons (dC (.str "not()")) (dCons (dC (.str "not(all")) (dCons (dC (.str "not(all))")) (dCons (dC (.str "not all")) dNil))))))))))))
@[reducible] def s3_law_k10 (E : Env) : DS :=
  (sSet 2 (dBin pAdd (dVar 2) (dLst (dCons (dC (.str "and(all, all, all)")) (dCons (dC (.str "and(all,all)")) (dCons (dC (.str "and(all)")) (dCons (dC (.str "move(1, all)")) (dCons (dC (.str "move(1 2 3, all)")) dNil))))))))
@[reducible] def s4_law_k10 (E : Env) : DS :=
  (sSet 2 (dBin pAdd (dVar 2) (dLst (dCons (dC (.str "move(7 0, all)")) (dCons (dC (.str "move(1 1)")) (dCons (dC (.str "(all)")) (dCons (dC (.str "move(1 1 , all)")) (dCons (dC (.str "not (all)")) (dCons (dC (.str "turn(dot)")) (dCons (dC (.str "high")) dNil))))))))))
@[reducible] def s5_law_k10 (E : Env) : DS :=
  (sSet 2 (dBin pAdd (dVar 2) (dLst (dCons (dC (.str "wide 3 3")) (dCons (dC (.str "border x")) (dCons (dBin pAdd (dBin pAdd (dBin pRep (dC (.str "not(")) (dC (.int 8))) (dC (.str "all"))) (dBin pRep (dC (.str ")")) (dC (.int 8)))) (dCons (dC (.str "and(all, )")) (dCons (dC (.str "and(, all)")) (dCons (dC (.str "or(all), all")) dNil)))))))))
@[reducible] def s6_law_k10 (E : Env) : DS :=
  (sSet 2 (dBin pAdd (dVar 2) (dLst (dCons (dC (.str "not(all)(all)")) (dCons (dC (.str "move(+1 0, all)")) (dCons (dC (.str "all\nall")) (dCons (dC (.str "rows 0 one")) dNil)))))))
@[reducible] def s7_law_k10 (E : Env) : DS :=
  (sSet 3 (dBin pIx (dVar 2) (dCallI 1 E.i_l_draw (dCons (dFun fLen (dCons (dVar 2) dNil)) dNil))))
@[reducible] def s8_law_k10 (E : Env) : DS :=
  (sIf (dOr (dNot (dTru (dCall E.p_l_bad (dCons (dVar 3) dNil)))) (dTru (dCall E.p_l_bad (dCons (dC (.str "and(all, not(move(-1 2, rows 0 3)))")) dNil)))) (sRet (dC (.bl false))) sNil)
@[reducible] def s9_law_k10 (E : Env) : DS :=
  (sSet 4 (dLst (dCons (dC (.str "let spot = border 1")) (dCons (dC (.str "red spot")) (dCons (dC (.str "blue not(spot)")) dNil)))))
@[reducible] def s10_law_k10 (E : Env) : DS :=
  (sSet 4 (dBin pAdd (dVar 4) (dLst (dCons (dC (.str "let rest = or(spot, rows 2 0)")) (dCons (dC (.str "gold rest")) dNil)))))
@[reducible] def s11_law_k10 (E : Env) : DS :=
  (sIf (dOr (dAsB (dBin pNotN (dCall E.p_l_line (dCons (dBinS pJoin (dC (.str "\n")) (dVar 4)) dNil)) (dC .non))) (dAsB (dBin pNotN (dCall E.p_l_line (dCons (dC (.str "")) dNil)) (dC .non)))) (sRet (dC (.bl false))) sNil)
@[reducible] def s12_law_k10 (E : Env) : DS :=
  (sSet 5 (dCallI 1 E.i_l_draw (dCons (dC (.int 6)) dNil)))
@[reducible] def s13_law_k10 (E : Env) : DS :=
  (sSet 6 (dLst (dCons (dC (.str "")) (dCons (dC (.str "red")) (dCons (dC (.str "red ")) (dCons (dBin pAdd (dC (.str "red ")) (dVar 3)) (dCons (dC (.str "Red all")) (dCons (dC (.str "let")) (dCons (dC (.str "let all = none")) (dCons (dC (.str "let let = all")) (dCons (dC (.str "red dot")) dNil)))))))))))
@[reducible] def s14_law_k10 (E : Env) : DS :=
  (sSet 6 (dBin pAdd (dVar 6) (dLst (dCons (dC (.str "let Spot = all")) (dCons (dC (.str "let spot =")) (dCons (dBin pAdd (dC (.str "let spot = ")) (dVar 3)) (dCons (dC (.str "let sevensigns = all")) (dCons (dC (.str "red  all")) dNil))))))))
@[reducible] def s15_law_k10 (E : Env) : DS :=
  (sSet 6 (dBin pAdd (dVar 6) (dLst (dCons (dC (.str " red all")) (dCons (dC (.str "let move = all")) dNil)))))
@[reducible] def s16_law_k10 (E : Env) : DS :=
  (sSet 7 (dBin pIx (dVar 6) (dCallI 1 E.i_l_draw (dCons (dFun fLen (dCons (dVar 6) dNil)) dNil))))
@[reducible] def s17_law_k10 (E : Env) : DS :=
  (sSet 8 (dBin pAdd (dBin pAdd (dSl (dVar 4) none (some (dVar 5))) (dLst (dCons (dVar 7) dNil))) (dSl (dVar 4) (some (dVar 5)) none)))
@[reducible] def s18_law_k10 (E : Env) : DS :=
  (sIf (dAnd (dAsB (dBin pNotIn (dC (.str "\n")) (dVar 7))) (dAsB (dBin pNe (dCall E.p_l_line (dCons (dBinS pJoin (dC (.str "\n")) (dVar 8)) dNil)) (dBin pAdd (dVar 5) (dC (.int 1)))))) (sRet (dC (.bl false))) sNil)
@[reducible] def s19_law_k10 (E : Env) : DS :=
  (sRet (dBin pEq (dCall E.p_l_line (dCons (dBinS pJoin (dC (.str "\n")) (dBin pAdd (dBin pRep (dLst (dCons (dC (.str "red all")) dNil)) (dBin pAdd (dC (.int 6)) (dCallI 1 E.i_l_draw (dCons (dC (.int 2)) dNil)))) (dLst (dCons (dC (.str "x all")) dNil)))) dNil)) (dC (.int 7))))
@[reducible] def r19_law_k10 (E : Env) : DS :=
  (s19_law_k10 E)
@[reducible] def r18_law_k10 (E : Env) : DS :=
  (sSeq (s18_law_k10 E) (r19_law_k10 E))
@[reducible] def r17_law_k10 (E : Env) : DS :=
  (sSeq (s17_law_k10 E) (r18_law_k10 E))
@[reducible] def r16_law_k10 (E : Env) : DS :=
  (sSeq (s16_law_k10 E) (r17_law_k10 E))
@[reducible] def r15_law_k10 (E : Env) : DS :=
  (sSeq (s15_law_k10 E) (r16_law_k10 E))
@[reducible] def r14_law_k10 (E : Env) : DS :=
  (sSeq (s14_law_k10 E) (r15_law_k10 E))
@[reducible] def r13_law_k10 (E : Env) : DS :=
  (sSeq (s13_law_k10 E) (r14_law_k10 E))
@[reducible] def r12_law_k10 (E : Env) : DS :=
  (sSeq (s12_law_k10 E) (r13_law_k10 E))
@[reducible] def r11_law_k10 (E : Env) : DS :=
  (sSeq (s11_law_k10 E) (r12_law_k10 E))
@[reducible] def r10_law_k10 (E : Env) : DS :=
  (sSeq (s10_law_k10 E) (r11_law_k10 E))
@[reducible] def r9_law_k10 (E : Env) : DS :=
  (sSeq (s9_law_k10 E) (r10_law_k10 E))
@[reducible] def r8_law_k10 (E : Env) : DS :=
  (sSeq (s8_law_k10 E) (r9_law_k10 E))
@[reducible] def r7_law_k10 (E : Env) : DS :=
  (sSeq (s7_law_k10 E) (r8_law_k10 E))
@[reducible] def r6_law_k10 (E : Env) : DS :=
  (sSeq (s6_law_k10 E) (r7_law_k10 E))
@[reducible] def r5_law_k10 (E : Env) : DS :=
  (sSeq (s5_law_k10 E) (r6_law_k10 E))
@[reducible] def r4_law_k10 (E : Env) : DS :=
  (sSeq (s4_law_k10 E) (r5_law_k10 E))
@[reducible] def r3_law_k10 (E : Env) : DS :=
  (sSeq (s3_law_k10 E) (r4_law_k10 E))
@[reducible] def r2_law_k10 (E : Env) : DS :=
  (sSeq (s2_law_k10 E) (r3_law_k10 E))
@[reducible] def r1_law_k10 (E : Env) : DS :=
  (sSeq (s1_law_k10 E) (r2_law_k10 E))
@[reducible] def r0_law_k10 (E : Env) : DS :=
  (sSeq (s0_law_k10 E) (r1_law_k10 E))
def d_law_k10 (E : Env) : DS :=
  (r0_law_k10 E)
def Env.next (E : Env) : Env where
  p_is_whole := runB 3 (d_is_whole E)
  p_are_numbers := runB 4 (d_are_numbers E)
  p_is_nested := runB 3 (d_is_nested E)
  p_is_region := runB 1 (d_is_region E)
  p_is_colour := runB 2 (d_is_colour E)
  p_number_of := runB 2 (d_number_of E)
  p_numbers_of := runB 3 (d_numbers_of E)
  p_cut := runB 5 (d_cut E)
  p_plain_in := runB 4 (d_plain_in E)
  p_moved_in := runB 4 (d_moved_in E)
  p_region_in := runB 6 (d_region_in E)
  p_brackets := runB 4 (d_brackets E)
  p_good_region := runB 3 (d_good_region E)
  p_read := runB 2 (d_read E)
  p_head_and_region := runB 5 (d_head_and_region E)
  p_is_name := runB 1 (d_is_name E)
  p_read_picture := runB 8 (d_read_picture E)
  o_l_begin := runO 1 (d_l_begin E)
  i_l_draw := runI 4 (d_l_draw E)
  p_l_bad := runB 2 (d_l_bad E)
  p_l_line := runB 3 (d_l_line E)
  p_law_k10 := runB 9 (d_law_k10 E)
def Env.zero : Env where
  p_is_whole := fun _ => .stuck
  p_are_numbers := fun _ => .stuck
  p_is_nested := fun _ => .stuck
  p_is_region := fun _ => .stuck
  p_is_colour := fun _ => .stuck
  p_number_of := fun _ => .stuck
  p_numbers_of := fun _ => .stuck
  p_cut := fun _ => .stuck
  p_plain_in := fun _ => .stuck
  p_moved_in := fun _ => .stuck
  p_region_in := fun _ => .stuck
  p_brackets := fun _ => .stuck
  p_good_region := fun _ => .stuck
  p_read := fun _ => .stuck
  p_head_and_region := fun _ => .stuck
  p_is_name := fun _ => .stuck
  p_read_picture := fun _ => .stuck
  o_l_begin := fun _ => none
  i_l_draw := fun _ _ => .stuck
  p_l_bad := fun _ => .stuck
  p_l_line := fun _ => .stuck
  p_law_k10 := fun _ => .stuck
def env : Nat → Env
  | 0 => .zero
  | n + 1 => (env n).next
end Pl

set_option maxHeartbeats 4000000
/-! printed by gen.py: the defs of law k10 mean what D0 says. -/
namespace Pl
open PySem PySem.Spec PyProof.Rows L2 RZ

def top (i : Nat) : Stmt := PySem.Challenge.pw_anysheet_k10_texts_refused.main.body.getD i (.Pass ⟨0, 0, 0, 0⟩)
def mth (s : Stmt) (j : Nat) : Stmt := match s with
  | .ClassDef _ _ _ b _ _ _ _ _ _ _ => b.getD j (.Pass ⟨0, 0, 0, 0⟩)
  | _ => .Pass ⟨0, 0, 0, 0⟩
def dfs : List He.DefD := [⟨("is_whole", none), "is_whole", "is_whole", defArgs (top 9), defBody (top 9), defScope (top 9), [], []⟩,
  ⟨("are_numbers", none), "are_numbers", "are_numbers", defArgs (top 10), defBody (top 10), defScope (top 10), [], []⟩,
  ⟨("is_nested", none), "is_nested", "is_nested", defArgs (top 11), defBody (top 11), defScope (top 11), [], []⟩,
  ⟨("is_region", none), "is_region", "is_region", defArgs (top 12), defBody (top 12), defScope (top 12), [], []⟩,
  ⟨("is_colour", none), "is_colour", "is_colour", defArgs (top 16), defBody (top 16), defScope (top 16), [], []⟩,
  ⟨("number_of", none), "number_of", "number_of", defArgs (top 19), defBody (top 19), defScope (top 19), [], []⟩,
  ⟨("numbers_of", none), "numbers_of", "numbers_of", defArgs (top 20), defBody (top 20), defScope (top 20), [], []⟩,
  ⟨("cut", none), "cut", "cut", defArgs (top 21), defBody (top 21), defScope (top 21), [], []⟩,
  ⟨("plain_in", none), "plain_in", "plain_in", defArgs (top 22), defBody (top 22), defScope (top 22), [], []⟩,
  ⟨("moved_in", none), "moved_in", "moved_in", defArgs (top 23), defBody (top 23), defScope (top 23), [], []⟩,
  ⟨("region_in", none), "region_in", "region_in", defArgs (top 24), defBody (top 24), defScope (top 24), [], []⟩,
  ⟨("brackets", none), "brackets", "brackets", defArgs (top 25), defBody (top 25), defScope (top 25), [], []⟩,
  ⟨("good_region", none), "good_region", "good_region", defArgs (top 26), defBody (top 26), defScope (top 26), [], []⟩,
  ⟨("read", none), "read", "read", defArgs (top 27), defBody (top 27), defScope (top 27), [], []⟩,
  ⟨("head_and_region", none), "head_and_region", "head_and_region", defArgs (top 28), defBody (top 28), defScope (top 28), [], []⟩,
  ⟨("is_name", none), "is_name", "is_name", defArgs (top 29), defBody (top 29), defScope (top 29), [], []⟩,
  ⟨("read_picture", none), "read_picture", "read_picture", defArgs (top 30), defBody (top 30), defScope (top 30), [], []⟩,
  ⟨("_law_begin", none), "_law_begin", "_law_begin", defArgs (top 32), defBody (top 32), defScope (top 32), [], []⟩,
  ⟨("_law_draw", none), "_law_draw", "_law_draw", defArgs (top 33), defBody (top 33), defScope (top 33), [], []⟩,
  ⟨("_law_bad", none), "_law_bad", "_law_bad", defArgs (top 34), defBody (top 34), defScope (top 34), [], []⟩,
  ⟨("_law_line", none), "_law_line", "_law_line", defArgs (top 35), defBody (top 35), defScope (top 35), [], []⟩,
  ⟨("law", none), "law", "law", defArgs (top 36), defBody (top 36), defScope (top 36), [], []⟩,
  ⟨("BadLine", some "__init__"), "__init__", "BadLine.__init__", defArgs (mth (top 3) 0), defBody (mth (top 3) 0), defScope (mth (top 3) 0), [], []⟩]
def fcs : List He.Fa := [.glo "is_whole", .glo "are_numbers", .glo "is_nested", .glo "is_region", .glo "is_colour", .glo "number_of", .glo "numbers_of", .glo "cut", .glo "plain_in", .glo "moved_in", .glo "region_in", .glo "brackets", .glo "good_region", .glo "read", .glo "head_and_region", .glo "is_name", .glo "read_picture", .glo "_law_begin", .glo "_law_draw", .glo "_law_bad", .glo "_law_line", .glo "law", .free "all", .free "bool", .free "enumerate", .free "int", .free "isinstance", .free "len", .free "list", .free "max", .free "str", .free "tuple", .free "zip", .str "FIGURES" "0123456789", .glo "INNER", .int "MOST_DEEP" 8, .int "MOST_PAINTS" 6, .glo "PLAIN", .str "SMALL" "abcdefghijklmnopqrstuvwxyz", .glo "WORDS", .exc "SheetError", .exc "BadText", .glo "SheetError", .glo "BadText", .glo "BadLine", .exm "SheetError" "SheetError" true, .exm "SheetError" "BadText" false, .exm "SheetError" "BadLine" false, .exm "BadText" "SheetError" true, .exm "BadText" "BadText" true, .exm "BadText" "BadLine" false, .exm "BadLine" "SheetError" true, .exm "BadLine" "BadText" false, .exm "BadLine" "BadLine" true]
def tbs : List He.Tab := [(fun K => He.ga K "INNER", ["and", "or", "not", "mirror", "flip", "turn"]), (fun K => He.ga K "PLAIN", ["all", "none", "high", "wide", "rows", "rows_up", "cols", "cols_back", "border"])]
def exs (K : PySem.W.Frag) : Bool := tabB K (He.ga K "INNER") tb_INNER && (tabB K (He.ga K "PLAIN") tb_PLAIN && (repB K (.tup [(.str "all"), (.str "none"), (.str "high"), (.str "wide"), (.str "rows"), (.str "rows_up"), (.str "cols"), (.str "cols_back"), (.str "border"), (.str "and"), (.str "or"), (.str "not"), (.str "mirror"), (.str "flip"), (.str "turn"), (.str "move")]) (.ref (He.ga K "WORDS")) && (lineB K)))
def clsN : Nat → Str
  | 0 => "SheetError"
  | 1 => "BadRegion"
  | 2 => "BadSheet"
  | 3 => "NoCell"
  | 4 => "BadPicture"
  | 5 => "NothingDone"
  | 6 => "BadText"
  | 7 => "BadLine"
  | 8 => "Counter"
  | 9 => "Region"
  | 10 => "Board"
  | _ => "law"
def clsF : Nat → List Str
  | 7 => ["line"]
  | 8 => ["tree", "rows", "columns", "n", "m", "step", "edge"]
  | 9 => ["region"]
  | 10 => ["n", "m", "paints", "rows"]
  | _ => []
def fx (K : PySem.W.Frag) (w : World) : Fx := ⟨K, w, fun i => He.ga K (clsN i), clsF⟩
structure Txt (K : PySem.W.Frag) (w : World) (mg : Str → Option Value) : Prop where
  sy : He.SaysT fcs dfs tbs w K
  n_all : mg "all" = none
  n_bool : mg "bool" = none
  n_enumerate : mg "enumerate" = none
  n_int : mg "int" = none
  n_isinstance : mg "isinstance" = none
  n_len : mg "len" = none
  n_list : mg "list" = none
  n_max : mg "max" = none
  n_str : mg "str" = none
  n_tuple : mg "tuple" = none
  n_zip : mg "zip" = none
  g_FIGURES : ∃ t, mg "FIGURES" = some (.str "0123456789" t)
  g_INNER : mg "INNER" = some (.ref (He.ga K "INNER"))
  k_INNER : TabOk (fx K w) (He.ga K "INNER") tb_INNER
  g_MOST_DEEP : ∃ t, mg "MOST_DEEP" = some (.int 8 t)
  g_MOST_PAINTS : ∃ t, mg "MOST_PAINTS" = some (.int 6 t)
  g_PLAIN : mg "PLAIN" = some (.ref (He.ga K "PLAIN"))
  k_PLAIN : TabOk (fx K w) (He.ga K "PLAIN") tb_PLAIN
  g_SMALL : ∃ t, mg "SMALL" = some (.str "abcdefghijklmnopqrstuvwxyz" t)
  g_WORDS : mg "WORDS" = some (.ref (He.ga K "WORDS"))
  r_WORDS : ∀ G, Rep (fx K w) G (.tup [(.str "all"), (.str "none"), (.str "high"), (.str "wide"), (.str "rows"), (.str "rows_up"), (.str "cols"), (.str "cols_back"), (.str "border"), (.str "and"), (.str "or"), (.str "not"), (.str "mirror"), (.str "flip"), (.str "turn"), (.str "move")]) (.ref (He.ga K "WORDS"))
  m_SheetError : mg "SheetError" = some (.ref (He.ga K "SheetError"))
  x_SheetError : PySem.W.excIn K (He.ga K "SheetError") He.veBase "ValueError.__new__" = true ∧ PySem.W.keepIn K (.ref (He.ga K "SheetError")) = true ∧ PySem.W.subIn K (.ref (He.ga K "SheetError")) (.type "BaseException") = some true ∧
    PySem.W.typeIn K (.ref (He.ga K "SheetError")) = some (.type "type")
  m_BadText : mg "BadText" = some (.ref (He.ga K "BadText"))
  x_BadText : PySem.W.excIn K (He.ga K "BadText") He.veBase "ValueError.__new__" = true ∧ PySem.W.keepIn K (.ref (He.ga K "BadText")) = true ∧ PySem.W.subIn K (.ref (He.ga K "BadText")) (.type "BaseException") = some true ∧
    PySem.W.typeIn K (.ref (He.ga K "BadText")) = some (.type "type")
  m_BadLine : mg "BadLine" = some (.ref (He.ga K "BadLine"))
  low : PySem.LowLn.LowTxt K mg (He.ga K "BadLine") (He.ma K (He.ga K "BadLine") "__init__")
  subs : SubOk (fx K w) [0, 6, 7] SUB
section
variable {P : Program} {w : World} {K : PySem.W.Frag} {mg : Str → Option Value} {base : Heap} {h : Heap}
theorem txt_of (X : K.In h) (G : h.Ns mainGlobals mg) (c : He.SaysT fcs dfs tbs w K) (m : exs K = true) : Txt K w mg := by
  have e := m
  unfold exs at e
  simp only [Bool.and_eq_true] at e
  have f := fun (i : Nat) (f : He.Fa) (hf : fcs[i]? = some f) => c.d.fact i (f := f) hf
  refine ⟨c, He.free_ok X G (f 22 (.free "all") rfl), He.free_ok X G (f 23 (.free "bool") rfl), He.free_ok X G (f 24 (.free "enumerate") rfl), He.free_ok X G (f 25 (.free "int") rfl), He.free_ok X G (f 26 (.free "isinstance") rfl), He.free_ok X G (f 27 (.free "len") rfl), He.free_ok X G (f 28 (.free "list") rfl), He.free_ok X G (f 29 (.free "max") rfl), He.free_ok X G (f 30 (.free "str") rfl), He.free_ok X G (f 31 (.free "tuple") rfl), He.free_ok X G (f 32 (.free "zip") rfl), He.str_ok X G (f 33 (.str "FIGURES" "0123456789") rfl), He.glo_ok X G (f 34 (.glo "INNER") rfl), ⟨c.tab 0 (t := (fun K => He.ga K "INNER", ["and", "or", "not", "mirror", "flip", "turn"])) rfl, e.1⟩, He.int_ok X G (f 35 (.int "MOST_DEEP" 8) rfl), He.int_ok X G (f 36 (.int "MOST_PAINTS" 6) rfl), He.glo_ok X G (f 37 (.glo "PLAIN") rfl), ⟨c.tab 1 (t := (fun K => He.ga K "PLAIN", ["all", "none", "high", "wide", "rows", "rows_up", "cols", "cols_back", "border"])) rfl, e.2.1⟩, He.str_ok X G (f 38 (.str "SMALL" "abcdefghijklmnopqrstuvwxyz") rfl), He.glo_ok X G (f 39 (.glo "WORDS") rfl), ?r_WORDS, He.glo_ok X G (f 42 (.glo "SheetError") rfl), He.exc_ok (f 40 (.exc "SheetError") rfl), He.glo_ok X G (f 43 (.glo "BadText") rfl), He.exc_ok (f 41 (.exc "BadText") rfl), He.glo_ok X G (f 44 (.glo "BadLine") rfl), ?low, ?sub⟩
  case r_WORDS =>
    obtain ⟨v, r, g⟩ := repB_ok (F := fx K w) e.2.2.1
    cases (show v = .ref (He.ga K "WORDS") from by cases v <;> first | (cases r; rfl) | (obtain ⟨_, r⟩ := r; cases r) | cases r)
    exact g
  case low =>
    obtain ⟨fd, FD⟩ := c.d.def_ 22 (d := ⟨("BadLine", some "__init__"), "__init__", "BadLine.__init__", defArgs (mth (top 3) 0), defBody (mth (top 3) 0), defScope (mth (top 3) 0), [], []⟩) rfl
    exact low_of (st := mth (top 3) 0) (He.glo_ok X G (f 44 (.glo "BadLine") rfl)) e.2.2.2 FD rfl rfl rfl
  case sub =>
    intro a b ha hb
    have ha : a ∈ ([0, 6, 7] : List Nat) := List.contains_iff_mem.mp ha
    have hb : b ∈ ([0, 6, 7] : List Nat) := List.contains_iff_mem.mp hb
    simp only [List.mem_cons, List.mem_nil_iff, or_false] at ha hb
    rcases ha with rfl | rfl | rfl <;> rcases hb with rfl | rfl | rfl
    · exact He.exm_ok (f 45 (.exm "SheetError" "SheetError" true) rfl)
    · exact He.exm_ok (f 46 (.exm "SheetError" "BadText" false) rfl)
    · exact He.exm_ok (f 47 (.exm "SheetError" "BadLine" false) rfl)
    · exact He.exm_ok (f 48 (.exm "BadText" "SheetError" true) rfl)
    · exact He.exm_ok (f 49 (.exm "BadText" "BadText" true) rfl)
    · exact He.exm_ok (f 50 (.exm "BadText" "BadLine" false) rfl)
    · exact He.exm_ok (f 51 (.exm "BadLine" "SheetError" true) rfl)
    · exact He.exm_ok (f 52 (.exm "BadLine" "BadText" false) rfl)
    · exact He.exm_ok (f 53 (.exm "BadLine" "BadLine" true) rfl)
theorem Txt.e_BadText (T : Txt K w mg) (X : Cx) (hK : X.K = K := by rfl) (hm : X.mg = mg := by rfl) : ExcC X "BadText" ((fx K w).cls 6) := by
  subst hK
  subst hm
  exact ⟨T.m_BadText, T.x_BadText.1, T.x_BadText.2.1, raises_own T.x_BadText.2.2.1 T.x_BadText.2.2.2⟩
structure Lv (P : Program) (w : World) (K : PySem.W.Frag) (mg : Str → Option Value) (base : Heap) (k : Nat) : Prop where
  f_is_whole : FnH P w K mg base k "is_whole" (spP (fx K w) 3 (env k).p_is_whole)
  f_are_numbers : FnH P w K mg base k "are_numbers" (spP (fx K w) 2 (env k).p_are_numbers)
  f_is_nested : FnH P w K mg base k "is_nested" (spP (fx K w) 2 (env k).p_is_nested)
  f_is_region : FnH P w K mg base k "is_region" (spP (fx K w) 1 (env k).p_is_region)
  f_is_colour : FnH P w K mg base k "is_colour" (spP (fx K w) 1 (env k).p_is_colour)
  f_number_of : FnH P w K mg base k "number_of" (spP (fx K w) 1 (env k).p_number_of)
  f_numbers_of : FnH P w K mg base k "numbers_of" (spP (fx K w) 1 (env k).p_numbers_of)
  f_cut : FnH P w K mg base k "cut" (spP (fx K w) 1 (env k).p_cut)
  f_plain_in : FnH P w K mg base k "plain_in" (spP (fx K w) 2 (env k).p_plain_in)
  f_moved_in : FnH P w K mg base k "moved_in" (spP (fx K w) 2 (env k).p_moved_in)
  f_region_in : FnH P w K mg base k "region_in" (spP (fx K w) 2 (env k).p_region_in)
  f_brackets : FnH P w K mg base k "brackets" (spP (fx K w) 1 (env k).p_brackets)
  f_good_region : FnH P w K mg base k "good_region" (spP (fx K w) 2 (env k).p_good_region)
  f_read : FnH P w K mg base k "read" (spP (fx K w) 1 (env k).p_read)
  f_head_and_region : FnH P w K mg base k "head_and_region" (spP (fx K w) 2 (env k).p_head_and_region)
  f_is_name : FnH P w K mg base k "is_name" (spP (fx K w) 1 (env k).p_is_name)
  f_read_picture : FnH P w K mg base k "read_picture" (spP (fx K w) 1 (env k).p_read_picture)
  f_l_begin : FnH P w K mg base k "_law_begin" (spO (fx K w) 1 (env k).o_l_begin)
  f_l_draw : FnH P w K mg base k "_law_draw" (spI (fx K w) 2 (env k).i_l_draw)
  f_l_bad : FnH P w K mg base k "_law_bad" (spP (fx K w) 1 (env k).p_l_bad)
  f_l_line : FnH P w K mg base k "_law_line" (spP (fx K w) 1 (env k).p_l_line)
  f_law_k10 : FnH P w K mg base k "law" (spP (fx K w) 1 (env k).p_law_k10)
variable (T : Txt K w mg) (X0 : K.In h) (G0 : h.Ns mainGlobals mg)
theorem sc_is_whole : FnScope ["thing", "least", "most"] ["thing", "least", "most"] (defScope (top 9)) := ⟨rfl, rfl, rfl, by decide +kernel, rfl, by decide +kernel, by decide +kernel⟩
include T X0 G0 in
theorem fo_is_whole {k : Nat} {fd : FuncData} (h : Lv P w K mg base k) (FD2 : FunD K "is_whole" "is_whole" (defArgs (top 9)) (defBody (top 9)) (defScope (top 9)) [] [] (He.ga K "is_whole") fd) : FnOk P w K mg base (L2.CX P w) (k + 1) (He.ga K "is_whole") fd ["thing", "least", "most"] (spP (fx K w) 3 (env (k + 1)).p_is_whole) := by
  have e0 : (env (k + 1)).p_is_whole = runB 3 (d_is_whole (env k)) := rfl
  rw [e0]
  have q0 := fn_pure (P := P) (w := w) (mg := mg) (base := base) (k := k) (F := fx K w) (d := d_is_whole (env k)) FD2 sc_is_whole
  refine q0 fun cdv A outer s H E hr => ?_
  have nd := sc_is_whole.nd
  refine ss_one ?_
  · refine st_ret ?_
    · refine pp_and ?_ ?_
      · refine pp_isi rfl (by decide) T.n_isinstance rfl T.n_int (by decide +kernel) rfl (by decide) (by decide) ?_ (by rfl) (by rfl) (by rfl)
        · exact pp_var (pv 0)
      · refine pp_and ?_ ?_
        · refine pp_not ?_
          · refine pp_isi rfl (by decide) T.n_isinstance rfl T.n_bool (by decide +kernel) rfl (by decide) (by decide) ?_ (by rfl) (by rfl) (by rfl)
            · exact pp_var (pv 0)
        · refine pp_one ?_
          · refine pp_chain op_le op_le c_le c_le.bin ?_ ?_ ?_ (by with_unfolding_all rfl)
            · exact pp_var (pv 1)
            · exact pp_var (pv 0)
            · exact pp_var (pv 2)
include T X0 G0 in
theorem ok_is_whole {k : Nat} (h : Lv P w K mg base k) : FnH P w K mg base (k + 1) "is_whole" (spP (fx K w) 3 (env (k + 1)).p_is_whole) := by
  obtain ⟨fd, FD⟩ := T.sy.d.def_ 0 (d := ⟨("is_whole", none), "is_whole", "is_whole", defArgs (top 9), defBody (top 9), defScope (top 9), [], []⟩) rfl
  exact ⟨_, fd, ["thing", "least", "most"], He.glo_ok X0 G0 (T.sy.d.fact 0 (f := .glo "is_whole") rfl), FD.kp, FD.bindsN (fun _ _ _ _ _ _ us hl => match us, hl with | [_, _, _], _ => rfl), fo_is_whole T X0 G0 h FD⟩
theorem sc_are_numbers : FnScope ["signs", "things", "sign", "thing"] ["signs", "things"] (defScope (top 10)) := ⟨rfl, rfl, rfl, by decide +kernel, rfl, by decide +kernel, by decide +kernel⟩
include T X0 G0 in
theorem fo_are_numbers {k : Nat} {fd : FuncData} (h : Lv P w K mg base k) (FD2 : FunD K "are_numbers" "are_numbers" (defArgs (top 10)) (defBody (top 10)) (defScope (top 10)) [] [] (He.ga K "are_numbers") fd) : FnOk P w K mg base (L2.CX P w) (k + 1) (He.ga K "are_numbers") fd ["signs", "things"] (spP (fx K w) 2 (env (k + 1)).p_are_numbers) := by
  have e0 : (env (k + 1)).p_are_numbers = runB 4 (d_are_numbers (env k)) := rfl
  rw [e0]
  have q0 := fn_pure (P := P) (w := w) (mg := mg) (base := base) (k := k) (F := fx K w) (d := d_are_numbers (env k)) FD2 sc_are_numbers
  refine q0 fun cdv A outer s H E hr => ?_
  have nd := sc_are_numbers.nd
  refine ss_cons ?_ ?_
  · refine st_if ?_ ?_ ?_
    · refine pt_cmp' (op_neD hr.units) (c_ne rfl).bin ?_ ?_ (nomark _)
      · refine pp_fun call_lenA (f_len rfl) T.n_len (by decide +kernel) rfl ?_ (by decide) (by decide) (by rfl) (by rfl)
        · refine pq_cons ?_ ?_ (by rfl)
          · exact pp_var (pv 1)
          · exact pq_nil
      · refine pp_fun call_lenA (f_len rfl) T.n_len (by decide +kernel) rfl ?_ (by decide) (by decide) (by rfl) (by rfl)
        · refine pq_cons ?_ ?_ (by rfl)
          · exact pp_var (pv 0)
          · exact pq_nil
    · refine ss_one ?_
      · refine st_ret ?_
        · exact pp_bl
    · exact ss_nil
  · refine ss_one ?_
    · refine st_ret ?_
      · refine pp_fun (cr_all rfl) f_all T.n_all (by decide +kernel) rfl ?_ (by decide) (by decide) (by rfl) (by rfl)
        · refine pq_cons ?_ ?_ (by rfl)
          · refine pp_comp (own := [("sign", 2), ("thing", 3)]) rfl nd ?_ (blkC_of (N' := ["signs", "things", "sign", "thing"]) (sc' := defScope (top 10)) rfl rfl (by decide +kernel)) (tg_tup rfl (tgs_cons (tgs_cons tgs_nil)) rfl) rfl (fun _ _ _ _ _ => (pg_tup rfl (pgs_cons (pg_name (i := 2) nd rfl (by first | exact Or.inl rfl | exact Or.inr rfl)) (pgs_cons (pg_name (i := 3) nd rfl (by first | exact Or.inl rfl | exact Or.inr rfl)) pgs_nil)))) (fun _ _ _ _ _ => ?_) (fun _ _ _ _ _ => ?_) (by intro _; rfl)
            · refine qi_zip rfl rfl T.n_zip ?_ (by rfl) (by rfl)
              · refine pq_cons ?_ ?_ (by rfl)
                · exact pp_var (pv 0)
                · refine pq_cons ?_ ?_ (by rfl)
                  · exact pp_var (pv 1)
                  · exact pq_nil
            · exact qts_nil
            · refine pc h.f_is_whole takes0 hr rfl ?_ (by rfl) (by decide) (by rfl) (by rfl)
              · refine pq_cons ?_ ?_ (by rfl)
                · exact pp_var (pv 3)
                · refine pq_cons ?_ ?_ (by rfl)
                  · exact pp_int
                  · refine pq_cons ?_ ?_ (by rfl)
                    · refine pp_if ?_ ?_ ?_
                      · refine pt_cmp' (op_eqD hr.units) (c_eq rfl).bin ?_ ?_ (nomark _)
                        · exact pp_var (pv 2)
                        · exact pp_str
                      · exact pp_int
                      · exact pp_int
                    · exact pq_nil
          · exact pq_nil
include T X0 G0 in
theorem ok_are_numbers {k : Nat} (h : Lv P w K mg base k) : FnH P w K mg base (k + 1) "are_numbers" (spP (fx K w) 2 (env (k + 1)).p_are_numbers) := by
  obtain ⟨fd, FD⟩ := T.sy.d.def_ 1 (d := ⟨("are_numbers", none), "are_numbers", "are_numbers", defArgs (top 10), defBody (top 10), defScope (top 10), [], []⟩) rfl
  exact ⟨_, fd, ["signs", "things"], He.glo_ok X0 G0 (T.sy.d.fact 1 (f := .glo "are_numbers") rfl), FD.kp, FD.bindsN (fun _ _ _ _ _ _ us hl => match us, hl with | [_, _], _ => rfl), fo_are_numbers T X0 G0 h FD⟩
theorem sc_is_nested : FnScope ["thing", "deep", "one"] ["thing", "deep"] (defScope (top 11)) := ⟨rfl, rfl, rfl, by decide +kernel, rfl, by decide +kernel, by decide +kernel⟩
include T X0 G0 in
theorem fo_is_nested {k : Nat} {fd : FuncData} (h : Lv P w K mg base k) (FD2 : FunD K "is_nested" "is_nested" (defArgs (top 11)) (defBody (top 11)) (defScope (top 11)) [] [] (He.ga K "is_nested") fd) : FnOk P w K mg base (L2.CX P w) (k + 1) (He.ga K "is_nested") fd ["thing", "deep"] (spP (fx K w) 2 (env (k + 1)).p_is_nested) := by
  have e0 : (env (k + 1)).p_is_nested = runB 3 (d_is_nested (env k)) := rfl
  rw [e0]
  have q0 := fn_pure (P := P) (w := w) (mg := mg) (base := base) (k := k) (F := fx K w) (d := d_is_nested (env k)) FD2 sc_is_nested
  refine q0 fun cdv A outer s H E hr => ?_
  have nd := sc_is_nested.nd
  refine ss_cons ?_ ?_
  · refine st_if ?_ ?_ ?_
    · refine PW.pt ?_
      · refine qw_or ?_ ?_
        · refine pt_cmp' (op_eqD hr.units) (c_eq rfl).bin ?_ ?_ (nomark _)
          · exact pp_var (pv 1)
          · exact pp_int
        · refine qw_or ?_ ?_
          · refine qt_not ?_
            · refine pt_tru rfl ?_ (by intro _; rfl)
              · refine pp_isi rfl (by decide) T.n_isinstance rfl T.n_tuple (by decide +kernel) rfl (by decide) (by decide) ?_ (by rfl) (by rfl) (by rfl)
                · exact pp_var (pv 0)
          · refine qw_or ?_ ?_
            · refine qt_not ?_
              · refine pt_tru rfl ?_ (by intro _; rfl)
                · exact pp_var (pv 0)
            · refine qw_or1 ?_
              · refine qt_not ?_
                · refine pt_tru rfl ?_ (by intro _; rfl)
                  · refine pp_isi rfl (by decide) T.n_isinstance rfl T.n_str (by decide +kernel) rfl (by decide) (by decide) ?_ (by rfl) (by rfl) (by rfl)
                    · refine pp_ix rfl ?_ ?_ (by intro _ _; rfl)
                      · exact pp_var (pv 0)
                      · exact pp_int
    · refine ss_one ?_
      · refine st_ret ?_
        · exact pp_bl
    · exact ss_nil
  · refine ss_cons ?_ ?_
    · refine st_if ?_ ?_ ?_
      · refine pt_inT rfl rfl T.k_PLAIN T.g_PLAIN rfl ?_ (by decide)
        · refine pp_ix rfl ?_ ?_ (by intro _ _; rfl)
          · exact pp_var (pv 0)
          · exact pp_int
      · refine ss_one ?_
        · refine st_ret ?_
          · refine pc h.f_are_numbers (takes_of rfl rfl rfl rfl) hr rfl ?_ (by rfl) (by decide) (by rfl) (by rfl)
            · refine pq_cons ?_ ?_ (by rfl)
              · refine pp_getT rfl rfl T.k_PLAIN T.g_PLAIN rfl ?_ (fun _ _ => rfl) (by decide)
                · refine pp_ix rfl ?_ ?_ (by intro _ _; rfl)
                  · exact pp_var (pv 0)
                  · exact pp_int
              · refine pq_cons ?_ ?_ (by rfl)
                · refine pp_sl rfl ?_ ?_ ?_
                  · exact pp_var (pv 0)
                  · refine qo_some ?_
                    · exact pp_int
                  · exact qo_none
                · exact pq_nil
      · exact ss_nil
    · refine ss_cons ?_ ?_
      · refine st_if ?_ ?_ ?_
        · refine pt_inT rfl rfl T.k_INNER T.g_INNER rfl ?_ (by decide)
          · refine pp_ix rfl ?_ ?_ (by intro _ _; rfl)
            · exact pp_var (pv 0)
            · exact pp_int
        · refine ss_one ?_
          · refine st_ret ?_
            · refine pp_and ?_ ?_
              · refine pp_cmp (op_eqD hr.units) (c_eq rfl).bin ?_ ?_ (nomark _)
                · refine pp_fun call_lenA (f_len rfl) T.n_len (by decide +kernel) rfl ?_ (by decide) (by decide) (by rfl) (by rfl)
                  · refine pq_cons ?_ ?_ (by rfl)
                    · exact pp_var (pv 0)
                    · exact pq_nil
                · refine pp_op op_addA (b_add rfl) ?_ ?_
                  · exact pp_int
                  · refine pp_getT rfl rfl T.k_INNER T.g_INNER rfl ?_ (fun _ _ => rfl) (by decide)
                    · refine pp_ix rfl ?_ ?_ (by intro _ _; rfl)
                      · exact pp_var (pv 0)
                      · exact pp_int
              · refine pp_one ?_
                · refine pp_fun (cr_all rfl) f_all T.n_all (by decide +kernel) rfl ?_ (by decide) (by decide) (by rfl) (by rfl)
                  · refine pq_cons ?_ ?_ (by rfl)
                    · refine pp_comp (own := [("one", 2)]) rfl nd ?_ (blkC_of (N' := ["thing", "deep", "one"]) (sc' := defScope (top 11)) rfl rfl (by decide +kernel)) tg_one rfl (fun _ _ _ _ _ => (pg_name (i := 2) nd rfl (by first | exact Or.inl rfl | exact Or.inr rfl))) (fun _ _ _ _ _ => ?_) (fun _ _ _ _ _ => ?_) (by intro _; rfl)
                      · refine qi_seq rfl ?_
                        · refine pp_sl rfl ?_ ?_ ?_
                          · exact pp_var (pv 0)
                          · refine qo_some ?_
                            · exact pp_int
                          · exact qo_none
                      · exact qts_nil
                      · refine pc h.f_is_nested takes0 hr rfl ?_ (by rfl) (by decide) (by rfl) (by rfl)
                        · refine pq_cons ?_ ?_ (by rfl)
                          · exact pp_var (pv 2)
                          · refine pq_cons ?_ ?_ (by rfl)
                            · refine pp_op op_sub b_sub ?_ ?_
                              · exact pp_var (pv 1)
                              · exact pp_int
                            · exact pq_nil
                    · exact pq_nil
        · exact ss_nil
      · refine ss_cons ?_ ?_
        · refine st_if ?_ ?_ ?_
          · refine PW.pt ?_
            · refine qw_or ?_ ?_
              · refine pt_cmp' (op_neD hr.units) (c_ne rfl).bin ?_ ?_ (nomark _)
                · refine pp_ix rfl ?_ ?_ (by intro _ _; rfl)
                  · exact pp_var (pv 0)
                  · exact pp_int
                · exact pp_str
              · refine qw_or ?_ ?_
                · refine pt_cmp' (op_neD hr.units) (c_ne rfl).bin ?_ ?_ (nomark _)
                  · refine pp_fun call_lenA (f_len rfl) T.n_len (by decide +kernel) rfl ?_ (by decide) (by decide) (by rfl) (by rfl)
                    · refine pq_cons ?_ ?_ (by rfl)
                      · exact pp_var (pv 0)
                      · exact pq_nil
                  · exact pp_int
                · refine qw_or1 ?_
                  · refine qt_not ?_
                    · refine pt_tru rfl ?_ (by intro _; rfl)
                      · refine pp_fun (cr_all rfl) f_all T.n_all (by decide +kernel) rfl ?_ (by decide) (by decide) (by rfl) (by rfl)
                        · refine pq_cons ?_ ?_ (by rfl)
                          · refine pp_comp (own := [("one", 2)]) rfl nd ?_ (blkC_of (N' := ["thing", "deep", "one"]) (sc' := defScope (top 11)) rfl rfl (by decide +kernel)) tg_one rfl (fun _ _ _ _ _ => (pg_name (i := 2) nd rfl (by first | exact Or.inl rfl | exact Or.inr rfl))) (fun _ _ _ _ _ => ?_) (fun _ _ _ _ _ => ?_) (by intro _; rfl)
                            · refine qi_seq rfl ?_
                              · refine pp_sl rfl ?_ ?_ ?_
                                · exact pp_var (pv 0)
                                · refine qo_some ?_
                                  · exact pp_int
                                · refine qo_some ?_
                                  · exact pp_int
                            · exact qts_nil
                            · refine pc h.f_is_whole takes0 hr rfl ?_ (by rfl) (by decide) (by rfl) (by rfl)
                              · refine pq_cons ?_ ?_ (by rfl)
                                · exact pp_var (pv 2)
                                · refine pq_cons ?_ ?_ (by rfl)
                                  · refine pp_un un_neg u_neg ?_
                                    · exact pp_int
                                  · refine pq_cons ?_ ?_ (by rfl)
                                    · exact pp_int
                                    · exact pq_nil
                          · exact pq_nil
          · refine ss_one ?_
            · refine st_ret ?_
              · exact pp_bl
          · exact ss_nil
        · refine ss_one ?_
          · refine st_ret ?_
            · refine pc h.f_is_nested (takes_of rfl rfl rfl rfl) hr rfl ?_ (by rfl) (by decide) (by rfl) (by rfl)
              · refine pq_cons ?_ ?_ (by rfl)
                · refine pp_ix rfl ?_ ?_ (by intro _ _; rfl)
                  · exact pp_var (pv 0)
                  · exact pp_int
                · refine pq_cons ?_ ?_ (by rfl)
                  · refine pp_op op_sub b_sub ?_ ?_
                    · exact pp_var (pv 1)
                    · exact pp_int
                  · exact pq_nil
include T X0 G0 in
theorem ok_is_nested {k : Nat} (h : Lv P w K mg base k) : FnH P w K mg base (k + 1) "is_nested" (spP (fx K w) 2 (env (k + 1)).p_is_nested) := by
  obtain ⟨fd, FD⟩ := T.sy.d.def_ 2 (d := ⟨("is_nested", none), "is_nested", "is_nested", defArgs (top 11), defBody (top 11), defScope (top 11), [], []⟩) rfl
  exact ⟨_, fd, ["thing", "deep"], He.glo_ok X0 G0 (T.sy.d.fact 2 (f := .glo "is_nested") rfl), FD.kp, FD.bindsN (fun _ _ _ _ _ _ us hl => match us, hl with | [_, _], _ => rfl), fo_is_nested T X0 G0 h FD⟩
theorem sc_is_region : FnScope ["thing"] ["thing"] (defScope (top 12)) := ⟨rfl, rfl, rfl, by decide +kernel, rfl, by decide +kernel, by decide +kernel⟩
include T X0 G0 in
theorem fo_is_region {k : Nat} {fd : FuncData} (h : Lv P w K mg base k) (FD2 : FunD K "is_region" "is_region" (defArgs (top 12)) (defBody (top 12)) (defScope (top 12)) [] [] (He.ga K "is_region") fd) : FnOk P w K mg base (L2.CX P w) (k + 1) (He.ga K "is_region") fd ["thing"] (spP (fx K w) 1 (env (k + 1)).p_is_region) := by
  have e0 : (env (k + 1)).p_is_region = runB 1 (d_is_region (env k)) := rfl
  rw [e0]
  have q0 := fn_pure (P := P) (w := w) (mg := mg) (base := base) (k := k) (F := fx K w) (d := d_is_region (env k)) FD2 sc_is_region
  refine q0 fun cdv A outer s H E hr => ?_
  have nd := sc_is_region.nd
  refine ss_one ?_
  · refine st_ret ?_
    · refine pc h.f_is_nested (takes_of rfl rfl rfl rfl) hr rfl ?_ (by rfl) (by decide) (by rfl) (by rfl)
      · refine pq_cons ?_ ?_ (by rfl)
        · exact pp_var (pv 0)
        · refine pq_cons ?_ ?_ (by rfl)
          · exact pp_gint T.g_MOST_DEEP rfl (by decide)
          · exact pq_nil
include T X0 G0 in
theorem ok_is_region {k : Nat} (h : Lv P w K mg base k) : FnH P w K mg base (k + 1) "is_region" (spP (fx K w) 1 (env (k + 1)).p_is_region) := by
  obtain ⟨fd, FD⟩ := T.sy.d.def_ 3 (d := ⟨("is_region", none), "is_region", "is_region", defArgs (top 12), defBody (top 12), defScope (top 12), [], []⟩) rfl
  exact ⟨_, fd, ["thing"], He.glo_ok X0 G0 (T.sy.d.fact 3 (f := .glo "is_region") rfl), FD.kp, FD.bindsN (fun _ _ _ _ _ _ us hl => match us, hl with | [_], _ => rfl), fo_is_region T X0 G0 h FD⟩
theorem sc_is_colour : FnScope ["thing", "sign"] ["thing"] (defScope (top 16)) := ⟨rfl, rfl, rfl, by decide +kernel, rfl, by decide +kernel, by decide +kernel⟩
include T X0 G0 in
theorem fo_is_colour {k : Nat} {fd : FuncData} (h : Lv P w K mg base k) (FD2 : FunD K "is_colour" "is_colour" (defArgs (top 16)) (defBody (top 16)) (defScope (top 16)) [] [] (He.ga K "is_colour") fd) : FnOk P w K mg base (L2.CX P w) (k + 1) (He.ga K "is_colour") fd ["thing"] (spP (fx K w) 1 (env (k + 1)).p_is_colour) := by
  have e0 : (env (k + 1)).p_is_colour = runB 2 (d_is_colour (env k)) := rfl
  rw [e0]
  have q0 := fn_pure (P := P) (w := w) (mg := mg) (base := base) (k := k) (F := fx K w) (d := d_is_colour (env k)) FD2 sc_is_colour
  refine q0 fun cdv A outer s H E hr => ?_
  have nd := sc_is_colour.nd
  refine ss_one ?_
  · refine st_ret ?_
    · refine pp_and ?_ ?_
      · refine pp_isi rfl (by decide) T.n_isinstance rfl T.n_str (by decide +kernel) rfl (by decide) (by decide) ?_ (by rfl) (by rfl) (by rfl)
        · exact pp_var (pv 0)
      · refine pp_and ?_ ?_
        · refine pp_chain op_le op_le c_le c_le.bin ?_ ?_ ?_ (by with_unfolding_all rfl)
          · exact pp_int
          · refine pp_fun call_lenA (f_len rfl) T.n_len (by decide +kernel) rfl ?_ (by decide) (by decide) (by rfl) (by rfl)
            · refine pq_cons ?_ ?_ (by rfl)
              · exact pp_var (pv 0)
              · exact pq_nil
          · exact pp_int
        · refine pp_one ?_
          · refine pp_fun (cr_all rfl) f_all T.n_all (by decide +kernel) rfl ?_ (by decide) (by decide) (by rfl) (by rfl)
            · refine pq_cons ?_ ?_ (by rfl)
              · refine pp_comp (own := [("sign", 1)]) rfl nd ?_ (blkC_of (N' := ["thing", "sign"]) (sc' := defScope (top 16)) rfl rfl (by decide +kernel)) tg_one rfl (fun _ _ _ _ _ => (pg_name (i := 1) nd rfl (by first | exact Or.inl rfl | exact Or.inr rfl))) (fun _ _ _ _ _ => ?_) (fun _ _ _ _ _ => ?_) (by intro _; rfl)
                · refine qi_seq rfl ?_
                  · exact pp_var (pv 0)
                · exact qts_nil
                · refine pp_cmp (op_inA hr.u65) (c_in rfl).bin ?_ ?_ rfl
                  · exact pp_var (pv 1)
                  · exact pp_gstr T.g_SMALL rfl (by decide)
              · exact pq_nil
include T X0 G0 in
theorem ok_is_colour {k : Nat} (h : Lv P w K mg base k) : FnH P w K mg base (k + 1) "is_colour" (spP (fx K w) 1 (env (k + 1)).p_is_colour) := by
  obtain ⟨fd, FD⟩ := T.sy.d.def_ 4 (d := ⟨("is_colour", none), "is_colour", "is_colour", defArgs (top 16), defBody (top 16), defScope (top 16), [], []⟩) rfl
  exact ⟨_, fd, ["thing"], He.glo_ok X0 G0 (T.sy.d.fact 4 (f := .glo "is_colour") rfl), FD.kp, FD.bindsN (fun _ _ _ _ _ _ us hl => match us, hl with | [_], _ => rfl), fo_is_colour T X0 G0 h FD⟩
theorem sc_number_of : FnScope ["word", "bare"] ["word"] (defScope (top 19)) := ⟨rfl, rfl, rfl, by decide +kernel, rfl, by decide +kernel, by decide +kernel⟩
include T X0 G0 in
theorem fo_number_of {k : Nat} {fd : FuncData} (h : Lv P w K mg base k) (FD2 : FunD K "number_of" "number_of" (defArgs (top 19)) (defBody (top 19)) (defScope (top 19)) [] [] (He.ga K "number_of") fd) : FnOk P w K mg base (L2.CX P w) (k + 1) (He.ga K "number_of") fd ["word"] (spP (fx K w) 1 (env (k + 1)).p_number_of) := by
  have e0 : (env (k + 1)).p_number_of = runB 2 (d_number_of (env k)) := rfl
  rw [e0]
  have q0 := fn_pure (P := P) (w := w) (mg := mg) (base := base) (k := k) (F := fx K w) (d := d_number_of (env k)) FD2 sc_number_of
  refine q0 fun cdv A outer s H E hr => ?_
  have nd := sc_number_of.nd
  refine ss_cons ?_ ?_
  · refine st_set (i := 1) nd rfl (.inl rfl) ?_ (by rfl) (by first | exact .inl rfl | exact .inr rfl | assumption)
    · refine pp_if ?_ ?_ ?_
      · refine pt_cmp' (op_eqD hr.units) (c_eq rfl).bin ?_ ?_ (nomark _)
        · refine pp_sl rfl ?_ ?_ ?_
          · exact pp_var (pv 0)
          · exact qo_none
          · refine qo_some ?_
            · exact pp_int
        · exact pp_str
      · refine pp_sl rfl ?_ ?_ ?_
        · exact pp_var (pv 0)
        · refine qo_some ?_
          · exact pp_int
        · exact qo_none
      · exact pp_var (pv 0)
  · refine ss_cons ?_ ?_
    · refine st_if ?_ ?_ ?_
      · refine PW.pt ?_
        · refine qw_or ?_ ?_
          · refine pt_cmp' (op_neD hr.units) (c_ne rfl).bin ?_ ?_ (nomark _)
            · refine pp_fun call_lenA (f_len rfl) T.n_len (by decide +kernel) rfl ?_ (by decide) (by decide) (by rfl) (by rfl)
              · refine pq_cons ?_ ?_ (by rfl)
                · exact pp_var (pv 1)
                · exact pq_nil
            · exact pp_int
          · refine qw_or ?_ ?_
            · refine pt_cmp' (op_notInA hr.u65) (c_notIn rfl).bin ?_ ?_ rfl
              · exact pp_var (pv 1)
              · exact pp_gstr T.g_FIGURES rfl (by decide)
            · refine qw_or1 ?_
              · refine pt_cmp' (op_eqD hr.units) (c_eq rfl).bin ?_ ?_ (nomark _)
                · exact pp_var (pv 0)
                · exact pp_str
      · refine ss_one ?_
        · refine st_ret ?_
          · exact pp_non
      · exact ss_nil
    · refine ss_one ?_
      · refine st_ret ?_
        · refine pp_ty call_intA f_intA T.n_int (by decide +kernel) rfl ?_ (by decide) (by decide) (by rfl) (by rfl)
          · refine pq_cons ?_ ?_ (by rfl)
            · exact pp_var (pv 0)
            · exact pq_nil
include T X0 G0 in
theorem ok_number_of {k : Nat} (h : Lv P w K mg base k) : FnH P w K mg base (k + 1) "number_of" (spP (fx K w) 1 (env (k + 1)).p_number_of) := by
  obtain ⟨fd, FD⟩ := T.sy.d.def_ 5 (d := ⟨("number_of", none), "number_of", "number_of", defArgs (top 19), defBody (top 19), defScope (top 19), [], []⟩) rfl
  exact ⟨_, fd, ["word"], He.glo_ok X0 G0 (T.sy.d.fact 5 (f := .glo "number_of") rfl), FD.kp, FD.bindsN (fun _ _ _ _ _ _ us hl => match us, hl with | [_], _ => rfl), fo_number_of T X0 G0 h FD⟩
theorem sc_numbers_of : FnScope ["words", "found", "word"] ["words"] (defScope (top 20)) := ⟨rfl, rfl, rfl, by decide +kernel, rfl, by decide +kernel, by decide +kernel⟩
include T X0 G0 in
theorem fo_numbers_of {k : Nat} {fd : FuncData} (h : Lv P w K mg base k) (FD2 : FunD K "numbers_of" "numbers_of" (defArgs (top 20)) (defBody (top 20)) (defScope (top 20)) [] [] (He.ga K "numbers_of") fd) : FnOk P w K mg base (L2.CX P w) (k + 1) (He.ga K "numbers_of") fd ["words"] (spP (fx K w) 1 (env (k + 1)).p_numbers_of) := by
  have e0 : (env (k + 1)).p_numbers_of = runB 3 (d_numbers_of (env k)) := rfl
  rw [e0]
  have q0 := fn_pure (P := P) (w := w) (mg := mg) (base := base) (k := k) (F := fx K w) (d := d_numbers_of (env k)) FD2 sc_numbers_of
  refine q0 fun cdv A outer s H E hr => ?_
  have nd := sc_numbers_of.nd
  refine ss_cons ?_ ?_
  · refine st_setComp (i := 1) (own := [("word", 2)]) rfl nd rfl rfl (sw_true rfl rfl rfl (by decide +kernel)) ?_ (blkC_of (N' := ["words", "found", "word"]) (sc' := defScope (top 20)) rfl rfl (by decide +kernel)) tg_one rfl (fun _ _ _ _ _ => (pg_name (i := 2) nd rfl (by first | exact Or.inl rfl | exact Or.inr rfl))) (fun _ _ _ _ _ => ?_) (fun _ _ _ _ _ => ?_) (by intro _; rfl)
    · refine qi_seq rfl ?_
      · exact pp_var (pv 0)
    · exact qts_nil
    · refine pc h.f_number_of takes0 hr rfl ?_ (by rfl) (by decide) (by rfl) (by rfl)
      · refine pq_cons ?_ ?_ (by rfl)
        · exact pp_var (pv 2)
        · exact pq_nil
  · refine ss_one ?_
    · refine st_ret ?_
      · refine pp_if ?_ ?_ ?_
        · refine pt_cmp' (op_inA hr.u65) (c_in rfl).bin ?_ ?_ rfl
          · exact pp_non
          · exact pp_var (pv 1)
        · exact pp_non
        · exact pp_var (pv 1)
include T X0 G0 in
theorem ok_numbers_of {k : Nat} (h : Lv P w K mg base k) : FnH P w K mg base (k + 1) "numbers_of" (spP (fx K w) 1 (env (k + 1)).p_numbers_of) := by
  obtain ⟨fd, FD⟩ := T.sy.d.def_ 6 (d := ⟨("numbers_of", none), "numbers_of", "numbers_of", defArgs (top 20), defBody (top 20), defScope (top 20), [], []⟩) rfl
  exact ⟨_, fd, ["words"], He.glo_ok X0 G0 (T.sy.d.fact 6 (f := .glo "numbers_of") rfl), FD.kp, FD.bindsN (fun _ _ _ _ _ _ us hl => match us, hl with | [_], _ => rfl), fo_numbers_of T X0 G0 h FD⟩
theorem sc_cut : FnScope ["text", "found", "deep", "at", "sign"] ["text"] (defScope (top 21)) := ⟨rfl, rfl, rfl, by decide +kernel, rfl, by decide +kernel, by decide +kernel⟩
include T X0 G0 in
theorem fo_cut {k : Nat} {fd : FuncData} (h : Lv P w K mg base k) (FD2 : FunD K "cut" "cut" (defArgs (top 21)) (defBody (top 21)) (defScope (top 21)) [] [] (He.ga K "cut") fd) : FnOk P w K mg base (L2.CX P w) (k + 1) (He.ga K "cut") fd ["text"] (spP (fx K w) 1 (env (k + 1)).p_cut) := by
  have e0 : (env (k + 1)).p_cut = runB 5 (d_cut (env k)) := rfl
  rw [e0]
  have q0 := fn_pure (P := P) (w := w) (mg := mg) (base := base) (k := k) (F := fx K w) (d := d_cut (env k)) FD2 sc_cut
  refine q0 fun cdv A outer s H E hr => ?_
  have nd := sc_cut.nd
  refine ss_cons ?_ ?_
  · refine st_newL (i := 1) nd rfl (.inl rfl) ?_ (by rfl) (by first | exact .inl rfl | exact .inr rfl | assumption)
    · refine pq_cons ?_ ?_ (by rfl)
      · exact pp_str
      · exact pq_nil
  · refine ss_cons ?_ ?_
    · refine st_set (i := 2) nd rfl (.inl rfl) ?_ (by rfl) (by first | exact .inl rfl | exact .inr rfl | assumption)
      · exact pp_int
    · refine ss_cons ?_ ?_
      · refine st_set (i := 3) nd rfl (.inl rfl) ?_ (by rfl) (by first | exact .inl rfl | exact .inr rfl | assumption)
        · exact pp_int
      · refine ss_cons ?_ ?_
        · refine st_while 1000000 (passes_of rfl) ?_ ?_
          · refine pt_cmp' op_lt c_lt.bin ?_ ?_ (nomark _)
            · exact pp_var (pv 3)
            · refine pp_fun call_lenA (f_len rfl) T.n_len (by decide +kernel) rfl ?_ (by decide) (by decide) (by rfl) (by rfl)
              · refine pq_cons ?_ ?_ (by rfl)
                · exact pp_var (pv 0)
                · exact pq_nil
          · refine ss_cons ?_ ?_
            · refine st_set (i := 4) nd rfl (.inl rfl) ?_ (by rfl) (by first | exact .inl rfl | exact .inr rfl | assumption)
              · refine pp_ix rfl ?_ ?_ (by intro _ _; rfl)
                · exact pp_var (pv 0)
                · exact pp_var (pv 3)
            · refine ss_cons ?_ ?_
              · refine st_aug (i := 2) nd rfl (.inl rfl) ?_ ip_add ip_addN (by first | exact .inl rfl | exact .inr rfl | assumption)
                · refine pp_pget (ds := [("(", (dC (.int 1))), (")", (dC (.int (-1))))]) (hu_of hr) ?_ rfl rfl (by decide) (by decide) (by decide) (by decide +kernel) ?_ ?_ ⟨rfl, rfl, rfl, rfl⟩
                  · refine pps_cons pe_str ?_ ?_
                    · exact pp_int
                    · refine pps_cons pe_str ?_ ?_
                      · exact pp_nint
                      · exact pps_nil
                  · exact pp_var (pv 4)
                  · exact pp_int
              · refine ss_cons ?_ ?_
                · refine st_if ?_ ?_ ?_
                  · refine pt_cmp' op_lt c_lt.bin ?_ ?_ (nomark _)
                    · exact pp_var (pv 2)
                    · exact pp_int
                  · refine ss_one ?_
                    · refine st_ret ?_
                      · exact pp_non
                  · exact ss_nil
                · refine ss_one ?_
                  · refine st_if ?_ ?_ ?_
                    · refine PW.pt ?_
                      · refine qw_and ?_ ?_
                        · refine pt_cmp' (op_eqD hr.units) (c_eq rfl).bin ?_ ?_ (nomark _)
                          · exact pp_var (pv 2)
                          · exact pp_int
                        · refine qw_and1 ?_
                          · refine pt_cmp' (op_eqD hr.units) (c_eq rfl).bin ?_ ?_ (nomark _)
                            · refine pp_sl rfl ?_ ?_ ?_
                              · exact pp_var (pv 0)
                              · refine qo_some ?_
                                · exact pp_var (pv 3)
                              · refine qo_some ?_
                                · refine pp_op op_addA (b_add rfl) ?_ ?_
                                  · exact pp_var (pv 3)
                                  · exact pp_int
                            · exact pp_str
                    · refine ss_cons ?_ ?_
                      · refine st_app (pv 1) ?_ (by rfl) (by rfl) (by rfl) (by rfl) (by rfl) (by rfl)
                        · exact pp_str
                      · refine ss_one ?_
                        · refine st_aug (i := 3) nd rfl (.inl rfl) ?_ ip_add ip_addN (by first | exact .inl rfl | exact .inr rfl | assumption)
                          · exact pp_int
                    · refine ss_cons ?_ ?_
                      · refine st_put (pv 1) ?_ ?_ (by rfl) (by rfl) (by rfl) (by intro _; rfl)
                        · refine pp_op op_addA (b_add rfl) ?_ ?_
                          · refine pp_ixA rfl (pv 1) ?_ (by intro _ _; rfl)
                            · refine pp_un un_neg u_neg ?_
                              · exact pp_int
                          · exact pp_var (pv 4)
                        · refine pp_un un_neg u_neg ?_
                          · exact pp_int
                      · refine ss_one ?_
                        · refine st_aug (i := 3) nd rfl (.inl rfl) ?_ ip_add ip_addN (by first | exact .inl rfl | exact .inr rfl | assumption)
                          · exact pp_int
        · refine ss_one ?_
          · refine st_ret ?_
            · refine pp_if ?_ ?_ ?_
              · refine pt_cmp' (op_eqD hr.units) (c_eq rfl).bin ?_ ?_ (nomark _)
                · exact pp_var (pv 2)
                · exact pp_int
              · exact pp_rd (pv 1)
              · exact pp_non
include T X0 G0 in
theorem ok_cut {k : Nat} (h : Lv P w K mg base k) : FnH P w K mg base (k + 1) "cut" (spP (fx K w) 1 (env (k + 1)).p_cut) := by
  obtain ⟨fd, FD⟩ := T.sy.d.def_ 7 (d := ⟨("cut", none), "cut", "cut", defArgs (top 21), defBody (top 21), defScope (top 21), [], []⟩) rfl
  exact ⟨_, fd, ["text"], He.glo_ok X0 G0 (T.sy.d.fact 7 (f := .glo "cut") rfl), FD.kp, FD.bindsN (fun _ _ _ _ _ _ us hl => match us, hl with | [_], _ => rfl), fo_cut T X0 G0 h FD⟩
theorem sc_plain_in : FnScope ["text", "names", "words", "numbers"] ["text", "names"] (defScope (top 22)) := ⟨rfl, rfl, rfl, by decide +kernel, rfl, by decide +kernel, by decide +kernel⟩
include T X0 G0 in
theorem fo_plain_in {k : Nat} {fd : FuncData} (h : Lv P w K mg base k) (FD2 : FunD K "plain_in" "plain_in" (defArgs (top 22)) (defBody (top 22)) (defScope (top 22)) [] [] (He.ga K "plain_in") fd) : FnOk P w K mg base (L2.CX P w) (k + 1) (He.ga K "plain_in") fd ["text", "names"] (spP (fx K w) 2 (env (k + 1)).p_plain_in) := by
  have e0 : (env (k + 1)).p_plain_in = runB 4 (d_plain_in (env k)) := rfl
  rw [e0]
  have q0 := fn_pure (P := P) (w := w) (mg := mg) (base := base) (k := k) (F := fx K w) (d := d_plain_in (env k)) FD2 sc_plain_in
  refine q0 fun cdv A outer s H E hr => ?_
  have nd := sc_plain_in.nd
  refine ss_cons ?_ ?_
  · refine st_set (i := 2) nd rfl (.inl rfl) ?_ (by rfl) (by first | exact .inl rfl | exact .inr rfl | assumption)
    · refine pp_split ?_ ?_ (by rfl) (by rfl) (by rfl)
      · exact pp_var (pv 0)
      · exact pp_str
  · refine ss_cons ?_ ?_
    · refine st_if ?_ ?_ ?_
      · refine pt_inT rfl rfl T.k_PLAIN T.g_PLAIN rfl ?_ (by decide)
        · refine pp_ix rfl ?_ ?_ (by intro _ _; rfl)
          · exact pp_var (pv 2)
          · exact pp_int
      · refine ss_cons ?_ ?_
        · refine st_set (i := 3) nd rfl (.inl rfl) ?_ (by rfl) (by first | exact .inl rfl | exact .inr rfl | assumption)
          · refine pc h.f_numbers_of (takes_of rfl rfl rfl rfl) hr rfl ?_ (by rfl) (by decide) (by rfl) (by rfl)
            · refine pq_cons ?_ ?_ (by rfl)
              · refine pp_sl rfl ?_ ?_ ?_
                · exact pp_var (pv 2)
                · refine qo_some ?_
                  · exact pp_int
                · exact qo_none
              · exact pq_nil
        · refine ss_one ?_
          · refine st_ret ?_
            · refine pp_if ?_ ?_ ?_
              · refine pt_cmp' op_isN c_isN.bin ?_ ?_ (nomark _)
                · exact pp_var (pv 3)
                · exact pp_non
              · exact pp_non
              · refine pp_op op_addA (b_add rfl) ?_ ?_
                · refine pp_tup ?_
                  · refine pq_cons ?_ ?_ (by rfl)
                    · refine pp_ix rfl ?_ ?_ (by intro _ _; rfl)
                      · exact pp_var (pv 2)
                      · exact pp_int
                    · exact pq_nil
                · refine pp_ty call_tuple_of (f_tuple rfl) T.n_tuple (by decide +kernel) rfl ?_ (by decide) (by decide) (by rfl) (by rfl)
                  · refine pq_cons ?_ ?_ (by rfl)
                    · exact pp_var (pv 3)
                    · exact pq_nil
      · exact ss_nil
    · refine ss_one ?_
      · refine st_ret ?_
        · refine pp_get1 (hu_of hr) ?_ ?_ ⟨rfl, rfl, rfl, rfl⟩
          · exact pp_var (pv 1)
          · exact pp_var (pv 0)
include T X0 G0 in
theorem ok_plain_in {k : Nat} (h : Lv P w K mg base k) : FnH P w K mg base (k + 1) "plain_in" (spP (fx K w) 2 (env (k + 1)).p_plain_in) := by
  obtain ⟨fd, FD⟩ := T.sy.d.def_ 8 (d := ⟨("plain_in", none), "plain_in", "plain_in", defArgs (top 22), defBody (top 22), defScope (top 22), [], []⟩) rfl
  exact ⟨_, fd, ["text", "names"], He.glo_ok X0 G0 (T.sy.d.fact 8 (f := .glo "plain_in") rfl), FD.kp, FD.bindsN (fun _ _ _ _ _ _ us hl => match us, hl with | [_, _], _ => rfl), fo_plain_in T X0 G0 h FD⟩
theorem sc_moved_in : FnScope ["parts", "names", "numbers", "inner"] ["parts", "names"] (defScope (top 23)) := ⟨rfl, rfl, rfl, by decide +kernel, rfl, by decide +kernel, by decide +kernel⟩
include T X0 G0 in
theorem fo_moved_in {k : Nat} {fd : FuncData} (h : Lv P w K mg base k) (FD2 : FunD K "moved_in" "moved_in" (defArgs (top 23)) (defBody (top 23)) (defScope (top 23)) [] [] (He.ga K "moved_in") fd) : FnOk P w K mg base (L2.CX P w) (k + 1) (He.ga K "moved_in") fd ["parts", "names"] (spP (fx K w) 2 (env (k + 1)).p_moved_in) := by
  have e0 : (env (k + 1)).p_moved_in = runB 4 (d_moved_in (env k)) := rfl
  rw [e0]
  have q0 := fn_pure (P := P) (w := w) (mg := mg) (base := base) (k := k) (F := fx K w) (d := d_moved_in (env k)) FD2 sc_moved_in
  refine q0 fun cdv A outer s H E hr => ?_
  have nd := sc_moved_in.nd
  refine ss_cons ?_ ?_
  · refine st_set (i := 2) nd rfl (.inl rfl) ?_ (by rfl) (by first | exact .inl rfl | exact .inr rfl | assumption)
    · refine pc h.f_numbers_of (takes_of rfl rfl rfl rfl) hr rfl ?_ (by rfl) (by decide) (by rfl) (by rfl)
      · refine pq_cons ?_ ?_ (by rfl)
        · refine pp_split ?_ ?_ (by rfl) (by rfl) (by rfl)
          · refine pp_ix rfl ?_ ?_ (by intro _ _; rfl)
            · exact pp_var (pv 0)
            · exact pp_int
          · exact pp_str
        · exact pq_nil
  · refine ss_cons ?_ ?_
    · refine st_set (i := 3) nd rfl (.inl rfl) ?_ (by rfl) (by first | exact .inl rfl | exact .inr rfl | assumption)
      · refine pp_if ?_ ?_ ?_
        · refine pt_cmp' (op_eqD hr.units) (c_eq rfl).bin ?_ ?_ (nomark _)
          · refine pp_fun call_lenA (f_len rfl) T.n_len (by decide +kernel) rfl ?_ (by decide) (by decide) (by rfl) (by rfl)
            · refine pq_cons ?_ ?_ (by rfl)
              · exact pp_var (pv 0)
              · exact pq_nil
          · exact pp_int
        · refine pc h.f_region_in (takes_of rfl rfl rfl rfl) hr rfl ?_ (by rfl) (by decide) (by rfl) (by rfl)
          · refine pq_cons ?_ ?_ (by rfl)
            · refine pp_ix rfl ?_ ?_ (by intro _ _; rfl)
              · exact pp_var (pv 0)
              · exact pp_int
            · refine pq_cons ?_ ?_ (by rfl)
              · exact pp_var (pv 1)
              · exact pq_nil
        · exact pp_non
    · refine ss_cons ?_ ?_
      · refine st_if ?_ ?_ ?_
        · refine PW.pt ?_
          · refine qw_or ?_ ?_
            · refine pt_cmp' op_isN c_isN.bin ?_ ?_ (nomark _)
              · exact pp_var (pv 2)
              · exact pp_non
            · refine qw_or ?_ ?_
              · refine pt_cmp' (op_neD hr.units) (c_ne rfl).bin ?_ ?_ (nomark _)
                · refine pp_fun call_lenA (f_len rfl) T.n_len (by decide +kernel) rfl ?_ (by decide) (by decide) (by rfl) (by rfl)
                  · refine pq_cons ?_ ?_ (by rfl)
                    · exact pp_var (pv 2)
                    · exact pq_nil
                · exact pp_int
              · refine qw_or1 ?_
                · refine pt_cmp' op_isN c_isN.bin ?_ ?_ (nomark _)
                  · exact pp_var (pv 3)
                  · exact pp_non
        · refine ss_one ?_
          · refine st_ret ?_
            · exact pp_non
        · exact ss_nil
      · refine ss_one ?_
        · refine st_ret ?_
          · refine pp_tup ?_
            · refine pq_cons ?_ ?_ (by rfl)
              · exact pp_str
              · refine pq_cons ?_ ?_ (by rfl)
                · refine pp_ix rfl ?_ ?_ (by intro _ _; rfl)
                  · exact pp_var (pv 2)
                  · exact pp_int
                · refine pq_cons ?_ ?_ (by rfl)
                  · refine pp_ix rfl ?_ ?_ (by intro _ _; rfl)
                    · exact pp_var (pv 2)
                    · exact pp_int
                  · refine pq_cons ?_ ?_ (by rfl)
                    · exact pp_var (pv 3)
                    · exact pq_nil
include T X0 G0 in
theorem ok_moved_in {k : Nat} (h : Lv P w K mg base k) : FnH P w K mg base (k + 1) "moved_in" (spP (fx K w) 2 (env (k + 1)).p_moved_in) := by
  obtain ⟨fd, FD⟩ := T.sy.d.def_ 9 (d := ⟨("moved_in", none), "moved_in", "moved_in", defArgs (top 23), defBody (top 23), defScope (top 23), [], []⟩) rfl
  exact ⟨_, fd, ["parts", "names"], He.glo_ok X0 G0 (T.sy.d.fact 9 (f := .glo "moved_in") rfl), FD.kp, FD.bindsN (fun _ _ _ _ _ _ us hl => match us, hl with | [_, _], _ => rfl), fo_moved_in T X0 G0 h FD⟩
theorem sc_region_in : FnScope ["text", "names", "word", "parts", "inner", "part"] ["text", "names"] (defScope (top 24)) := ⟨rfl, rfl, rfl, by decide +kernel, rfl, by decide +kernel, by decide +kernel⟩
include T X0 G0 in
theorem fo_region_in {k : Nat} {fd : FuncData} (h : Lv P w K mg base k) (FD2 : FunD K "region_in" "region_in" (defArgs (top 24)) (defBody (top 24)) (defScope (top 24)) [] [] (He.ga K "region_in") fd) : FnOk P w K mg base (L2.CX P w) (k + 1) (He.ga K "region_in") fd ["text", "names"] (spP (fx K w) 2 (env (k + 1)).p_region_in) := by
  have e0 : (env (k + 1)).p_region_in = runB 6 (d_region_in (env k)) := rfl
  rw [e0]
  have q0 := fn_pure (P := P) (w := w) (mg := mg) (base := base) (k := k) (F := fx K w) (d := d_region_in (env k)) FD2 sc_region_in
  refine q0 fun cdv A outer s H E hr => ?_
  have nd := sc_region_in.nd
  refine ss_cons ?_ ?_
  · refine st_set (i := 2) nd rfl (.inl rfl) ?_ (by rfl) (by first | exact .inl rfl | exact .inr rfl | assumption)
    · refine pp_ix rfl ?_ ?_ (by intro _ _; rfl)
      · refine pp_split ?_ ?_ (by rfl) (by rfl) (by rfl)
        · exact pp_var (pv 0)
        · exact pp_str
      · exact pp_int
  · refine ss_cons ?_ ?_
    · refine st_if ?_ ?_ ?_
      · refine pt_cmp' (op_notInA hr.u65) (c_notIn rfl).bin ?_ ?_ rfl
        · exact pp_str
        · exact pp_var (pv 0)
      · refine ss_one ?_
        · refine st_ret ?_
          · refine pc h.f_plain_in (takes_of rfl rfl rfl rfl) hr rfl ?_ (by rfl) (by decide) (by rfl) (by rfl)
            · refine pq_cons ?_ ?_ (by rfl)
              · exact pp_var (pv 0)
              · refine pq_cons ?_ ?_ (by rfl)
                · exact pp_var (pv 1)
                · exact pq_nil
      · exact ss_nil
    · refine ss_cons ?_ ?_
      · refine st_set (i := 3) nd rfl (.inl rfl) ?_ (by rfl) (by first | exact .inl rfl | exact .inr rfl | assumption)
        · refine pp_if ?_ ?_ ?_
          · refine pt_cmp' (op_eqD hr.units) (c_eq rfl).bin ?_ ?_ (nomark _)
            · refine pp_ix rfl ?_ ?_ (by intro _ _; rfl)
              · exact pp_var (pv 0)
              · refine pp_un un_neg u_neg ?_
                · exact pp_int
            · exact pp_str
          · refine pc h.f_cut (takes_of rfl rfl rfl rfl) hr rfl ?_ (by rfl) (by decide) (by rfl) (by rfl)
            · refine pq_cons ?_ ?_ (by rfl)
              · refine pp_sl rfl ?_ ?_ ?_
                · exact pp_var (pv 0)
                · refine qo_some ?_
                  · refine pp_op op_addA (b_add rfl) ?_ ?_
                    · refine pp_fun call_lenA (f_len rfl) T.n_len (by decide +kernel) rfl ?_ (by decide) (by decide) (by rfl) (by rfl)
                      · refine pq_cons ?_ ?_ (by rfl)
                        · exact pp_var (pv 2)
                        · exact pq_nil
                    · exact pp_int
                · refine qo_some ?_
                  · refine pp_un un_neg u_neg ?_
                    · exact pp_int
              · exact pq_nil
          · exact pp_non
      · refine ss_cons ?_ ?_
        · refine st_if ?_ ?_ ?_
          · refine pt_cmp' op_isN c_isN.bin ?_ ?_ (nomark _)
            · exact pp_var (pv 3)
            · exact pp_non
          · refine ss_one ?_
            · refine st_ret ?_
              · exact pp_non
          · exact ss_nil
        · refine ss_cons ?_ ?_
          · refine st_if ?_ ?_ ?_
            · refine pt_cmp' (op_eqD hr.units) (c_eq rfl).bin ?_ ?_ (nomark _)
              · exact pp_var (pv 2)
              · exact pp_str
            · refine ss_one ?_
              · refine st_ret ?_
                · refine pc h.f_moved_in (takes_of rfl rfl rfl rfl) hr rfl ?_ (by rfl) (by decide) (by rfl) (by rfl)
                  · refine pq_cons ?_ ?_ (by rfl)
                    · exact pp_var (pv 3)
                    · refine pq_cons ?_ ?_ (by rfl)
                      · exact pp_var (pv 1)
                      · exact pq_nil
            · exact ss_nil
          · refine ss_cons ?_ ?_
            · refine st_if ?_ ?_ ?_
              · refine PW.pt ?_
                · refine qw_or ?_ ?_
                  · refine pt_notInT rfl rfl T.k_INNER T.g_INNER rfl ?_ (by decide)
                    · exact pp_var (pv 2)
                  · refine qw_or1 ?_
                    · refine pt_cmp' (op_neD hr.units) (c_ne rfl).bin ?_ ?_ (nomark _)
                      · refine pp_fun call_lenA (f_len rfl) T.n_len (by decide +kernel) rfl ?_ (by decide) (by decide) (by rfl) (by rfl)
                        · refine pq_cons ?_ ?_ (by rfl)
                          · exact pp_var (pv 3)
                          · exact pq_nil
                      · refine pp_getT rfl rfl T.k_INNER T.g_INNER rfl ?_ (fun _ _ => rfl) (by decide)
                        · exact pp_var (pv 2)
              · refine ss_one ?_
                · refine st_ret ?_
                  · exact pp_non
              · exact ss_nil
            · refine ss_cons ?_ ?_
              · refine st_setComp (i := 4) (own := [("part", 5)]) rfl nd rfl rfl (sw_true rfl rfl rfl (by decide +kernel)) ?_ (blkC_of (N' := ["text", "names", "word", "parts", "inner", "part"]) (sc' := defScope (top 24)) rfl rfl (by decide +kernel)) tg_one rfl (fun _ _ _ _ _ => (pg_name (i := 5) nd rfl (by first | exact Or.inl rfl | exact Or.inr rfl))) (fun _ _ _ _ _ => ?_) (fun _ _ _ _ _ => ?_) (by intro _; rfl)
                · refine qi_seq rfl ?_
                  · exact pp_var (pv 3)
                · exact qts_nil
                · refine pc h.f_region_in takes0 hr rfl ?_ (by rfl) (by decide) (by rfl) (by rfl)
                  · refine pq_cons ?_ ?_ (by rfl)
                    · exact pp_var (pv 5)
                    · refine pq_cons ?_ ?_ (by rfl)
                      · exact pp_var (pv 1)
                      · exact pq_nil
              · refine ss_one ?_
                · refine st_ret ?_
                  · refine pp_if ?_ ?_ ?_
                    · refine pt_cmp' (op_inA hr.u65) (c_in rfl).bin ?_ ?_ rfl
                      · exact pp_non
                      · exact pp_var (pv 4)
                    · exact pp_non
                    · refine pp_op op_addA (b_add rfl) ?_ ?_
                      · refine pp_tup ?_
                        · refine pq_cons ?_ ?_ (by rfl)
                          · exact pp_var (pv 2)
                          · exact pq_nil
                      · refine pp_ty call_tuple_of (f_tuple rfl) T.n_tuple (by decide +kernel) rfl ?_ (by decide) (by decide) (by rfl) (by rfl)
                        · refine pq_cons ?_ ?_ (by rfl)
                          · exact pp_var (pv 4)
                          · exact pq_nil
include T X0 G0 in
theorem ok_region_in {k : Nat} (h : Lv P w K mg base k) : FnH P w K mg base (k + 1) "region_in" (spP (fx K w) 2 (env (k + 1)).p_region_in) := by
  obtain ⟨fd, FD⟩ := T.sy.d.def_ 10 (d := ⟨("region_in", none), "region_in", "region_in", defArgs (top 24), defBody (top 24), defScope (top 24), [], []⟩) rfl
  exact ⟨_, fd, ["text", "names"], He.glo_ok X0 G0 (T.sy.d.fact 10 (f := .glo "region_in") rfl), FD.kp, FD.bindsN (fun _ _ _ _ _ _ us hl => match us, hl with | [_, _], _ => rfl), fo_region_in T X0 G0 h FD⟩
theorem sc_brackets : FnScope ["text", "found", "deep", "sign"] ["text"] (defScope (top 25)) := ⟨rfl, rfl, rfl, by decide +kernel, rfl, by decide +kernel, by decide +kernel⟩
include T X0 G0 in
theorem fo_brackets {k : Nat} {fd : FuncData} (h : Lv P w K mg base k) (FD2 : FunD K "brackets" "brackets" (defArgs (top 25)) (defBody (top 25)) (defScope (top 25)) [] [] (He.ga K "brackets") fd) : FnOk P w K mg base (L2.CX P w) (k + 1) (He.ga K "brackets") fd ["text"] (spP (fx K w) 1 (env (k + 1)).p_brackets) := by
  have e0 : (env (k + 1)).p_brackets = runB 4 (d_brackets (env k)) := rfl
  rw [e0]
  have q0 := fn_pure (P := P) (w := w) (mg := mg) (base := base) (k := k) (F := fx K w) (d := d_brackets (env k)) FD2 sc_brackets
  refine q0 fun cdv A outer s H E hr => ?_
  have nd := sc_brackets.nd
  refine ss_cons ?_ ?_
  · refine st_asg ?_ (pg_tup rfl (pgs_cons (pg_name (i := 1) nd rfl (by first | exact Or.inl rfl | exact Or.inr rfl)) (pgs_cons (pg_name (i := 2) nd rfl (by first | exact Or.inl rfl | exact Or.inr rfl)) pgs_nil))) (tg_tup rfl (tgs_cons (tgs_cons tgs_nil)) rfl) (by rfl) (by rfl) (by rfl)
    · refine pp_tup ?_
      · refine pq_cons ?_ ?_ (by rfl)
        · exact pp_int
        · refine pq_cons ?_ ?_ (by rfl)
          · exact pp_int
          · exact pq_nil
  · refine ss_cons ?_ ?_
    · refine st_for (passes_of rfl) rfl ?_ (pg_name (i := 3) nd rfl (by first | exact Or.inl rfl | exact Or.inr rfl)) tg_one ?_ (by intro _; rfl)
      · refine qi_seq rfl ?_
        · exact pp_var (pv 0)
      · refine ss_cons ?_ ?_
        · refine st_aug (i := 2) nd rfl (.inl rfl) ?_ ip_add ip_addN (by first | exact .inl rfl | exact .inr rfl | assumption)
          · refine pp_pget (ds := [("(", (dC (.int 1))), (")", (dC (.int (-1))))]) (hu_of hr) ?_ rfl rfl (by decide) (by decide) (by decide) (by decide +kernel) ?_ ?_ ⟨rfl, rfl, rfl, rfl⟩
            · refine pps_cons pe_str ?_ ?_
              · exact pp_int
              · refine pps_cons pe_str ?_ ?_
                · exact pp_nint
                · exact pps_nil
            · exact pp_var (pv 3)
            · exact pp_int
        · refine ss_one ?_
          · refine st_set (i := 1) nd rfl (.inl rfl) ?_ (by rfl) (by first | exact .inl rfl | exact .inr rfl | assumption)
            · refine pp_fun (call_max2 rfl) f_max2 T.n_max (by decide +kernel) rfl ?_ (by decide) (by decide) (by rfl) (by rfl)
              · refine pq_cons ?_ ?_ (by rfl)
                · exact pp_var (pv 1)
                · refine pq_cons ?_ ?_ (by rfl)
                  · exact pp_var (pv 2)
                  · exact pq_nil
    · refine ss_one ?_
      · refine st_ret ?_
        · exact pp_var (pv 1)
include T X0 G0 in
theorem ok_brackets {k : Nat} (h : Lv P w K mg base k) : FnH P w K mg base (k + 1) "brackets" (spP (fx K w) 1 (env (k + 1)).p_brackets) := by
  obtain ⟨fd, FD⟩ := T.sy.d.def_ 11 (d := ⟨("brackets", none), "brackets", "brackets", defArgs (top 25), defBody (top 25), defScope (top 25), [], []⟩) rfl
  exact ⟨_, fd, ["text"], He.glo_ok X0 G0 (T.sy.d.fact 11 (f := .glo "brackets") rfl), FD.kp, FD.bindsN (fun _ _ _ _ _ _ us hl => match us, hl with | [_], _ => rfl), fo_brackets T X0 G0 h FD⟩
theorem sc_good_region : FnScope ["text", "names", "found"] ["text", "names"] (defScope (top 26)) := ⟨rfl, rfl, rfl, by decide +kernel, rfl, by decide +kernel, by decide +kernel⟩
include T X0 G0 in
theorem fo_good_region {k : Nat} {fd : FuncData} (h : Lv P w K mg base k) (FD2 : FunD K "good_region" "good_region" (defArgs (top 26)) (defBody (top 26)) (defScope (top 26)) [] [] (He.ga K "good_region") fd) : FnOk P w K mg base (L2.CX P w) (k + 1) (He.ga K "good_region") fd ["text", "names"] (spP (fx K w) 2 (env (k + 1)).p_good_region) := by
  have e0 : (env (k + 1)).p_good_region = runB 3 (d_good_region (env k)) := rfl
  rw [e0]
  have q0 := fn_pure (P := P) (w := w) (mg := mg) (base := base) (k := k) (F := fx K w) (d := d_good_region (env k)) FD2 sc_good_region
  refine q0 fun cdv A outer s H E hr => ?_
  have nd := sc_good_region.nd
  refine ss_cons ?_ ?_
  · refine st_set (i := 2) nd rfl (.inl rfl) ?_ (by rfl) (by first | exact .inl rfl | exact .inr rfl | assumption)
    · refine pp_if ?_ ?_ ?_
      · refine PW.pt ?_
        · refine qw_and ?_ ?_
          · refine pt_tru rfl ?_ (by intro _; rfl)
            · exact pp_var (pv 0)
          · refine qw_and1 ?_
            · refine pt_cmp' op_le c_le.bin ?_ ?_ (nomark _)
              · refine pc h.f_brackets (takes_of rfl rfl rfl rfl) hr rfl ?_ (by rfl) (by decide) (by rfl) (by rfl)
                · refine pq_cons ?_ ?_ (by rfl)
                  · exact pp_var (pv 0)
                  · exact pq_nil
              · exact pp_gint T.g_MOST_DEEP rfl (by decide)
      · refine pc h.f_region_in (takes_of rfl rfl rfl rfl) hr rfl ?_ (by rfl) (by decide) (by rfl) (by rfl)
        · refine pq_cons ?_ ?_ (by rfl)
          · exact pp_var (pv 0)
          · refine pq_cons ?_ ?_ (by rfl)
            · exact pp_var (pv 1)
            · exact pq_nil
      · exact pp_non
  · refine ss_one ?_
    · refine st_ret ?_
      · refine pp_if ?_ ?_ ?_
        · refine PW.pt ?_
          · refine qw_and ?_ ?_
            · refine pt_cmp' op_notN c_notN.bin ?_ ?_ (nomark _)
              · exact pp_var (pv 2)
              · exact pp_non
            · refine qw_and1 ?_
              · refine pt_tru rfl ?_ (by intro _; rfl)
                · refine pc h.f_is_region (takes_of rfl rfl rfl rfl) hr rfl ?_ (by rfl) (by decide) (by rfl) (by rfl)
                  · refine pq_cons ?_ ?_ (by rfl)
                    · exact pp_var (pv 2)
                    · exact pq_nil
        · exact pp_var (pv 2)
        · exact pp_non
include T X0 G0 in
theorem ok_good_region {k : Nat} (h : Lv P w K mg base k) : FnH P w K mg base (k + 1) "good_region" (spP (fx K w) 2 (env (k + 1)).p_good_region) := by
  obtain ⟨fd, FD⟩ := T.sy.d.def_ 12 (d := ⟨("good_region", none), "good_region", "good_region", defArgs (top 26), defBody (top 26), defScope (top 26), [], []⟩) rfl
  exact ⟨_, fd, ["text", "names"], He.glo_ok X0 G0 (T.sy.d.fact 12 (f := .glo "good_region") rfl), FD.kp, FD.bindsN (fun _ _ _ _ _ _ us hl => match us, hl with | [_, _], _ => rfl), fo_good_region T X0 G0 h FD⟩
theorem sc_read : FnScope ["text", "found"] ["text"] (defScope (top 27)) := ⟨rfl, rfl, rfl, by decide +kernel, rfl, by decide +kernel, by decide +kernel⟩
include T X0 G0 in
theorem fo_read {k : Nat} {fd : FuncData} (h : Lv P w K mg base k) (FD2 : FunD K "read" "read" (defArgs (top 27)) (defBody (top 27)) (defScope (top 27)) [] [] (He.ga K "read") fd) : FnOk P w K mg base (L2.CX P w) (k + 1) (He.ga K "read") fd ["text"] (spP (fx K w) 1 (env (k + 1)).p_read) := by
  have e0 : (env (k + 1)).p_read = runB 2 (d_read (env k)) := rfl
  rw [e0]
  have q0 := fn_pure (P := P) (w := w) (mg := mg) (base := base) (k := k) (F := fx K w) (d := d_read (env k)) FD2 sc_read
  refine q0 fun cdv A outer s H E hr => ?_
  have nd := sc_read.nd
  refine ss_cons ?_ ?_
  · refine st_set (i := 1) nd rfl (.inl rfl) ?_ (by rfl) (by first | exact .inl rfl | exact .inr rfl | assumption)
    · refine pc h.f_good_region (takes_of rfl rfl rfl rfl) hr rfl ?_ (by rfl) (by decide) (by rfl) (by rfl)
      · refine pq_cons ?_ ?_ (by rfl)
        · exact pp_var (pv 0)
        · refine pq_cons ?_ ?_ (by rfl)
          · exact pp_dic0
          · exact pq_nil
  · refine ss_cons ?_ ?_
    · refine st_if ?_ ?_ ?_
      · refine pt_cmp' op_isN c_isN.bin ?_ ?_ (nomark _)
        · exact pp_var (pv 1)
        · exact pp_non
      · refine ss_one ?_
        · exact st_raise (c := 6) rfl (takes_of rfl rfl rfl rfl) (T.e_BadText _) rfl (by decide)
      · exact ss_nil
    · refine ss_one ?_
      · refine st_ret ?_
        · exact pp_var (pv 1)
include T X0 G0 in
theorem ok_read {k : Nat} (h : Lv P w K mg base k) : FnH P w K mg base (k + 1) "read" (spP (fx K w) 1 (env (k + 1)).p_read) := by
  obtain ⟨fd, FD⟩ := T.sy.d.def_ 13 (d := ⟨("read", none), "read", "read", defArgs (top 27), defBody (top 27), defScope (top 27), [], []⟩) rfl
  exact ⟨_, fd, ["text"], He.glo_ok X0 G0 (T.sy.d.fact 13 (f := .glo "read") rfl), FD.kp, FD.bindsN (fun _ _ _ _ _ _ us hl => match us, hl with | [_], _ => rfl), fo_read T X0 G0 h FD⟩
theorem sc_head_and_region : FnScope ["line", "names", "at", "name", "rest"] ["line", "names"] (defScope (top 28)) := ⟨rfl, rfl, rfl, by decide +kernel, rfl, by decide +kernel, by decide +kernel⟩
include T X0 G0 in
theorem fo_head_and_region {k : Nat} {fd : FuncData} (h : Lv P w K mg base k) (FD2 : FunD K "head_and_region" "head_and_region" (defArgs (top 28)) (defBody (top 28)) (defScope (top 28)) [] [] (He.ga K "head_and_region") fd) : FnOk P w K mg base (L2.CX P w) (k + 1) (He.ga K "head_and_region") fd ["line", "names"] (spP (fx K w) 2 (env (k + 1)).p_head_and_region) := by
  have e0 : (env (k + 1)).p_head_and_region = runB 5 (d_head_and_region (env k)) := rfl
  rw [e0]
  have q0 := fn_pure (P := P) (w := w) (mg := mg) (base := base) (k := k) (F := fx K w) (d := d_head_and_region (env k)) FD2 sc_head_and_region
  refine q0 fun cdv A outer s H E hr => ?_
  have nd := sc_head_and_region.nd
  refine ss_cons ?_ ?_
  · refine st_if ?_ ?_ ?_
    · refine PW.pt ?_
      · refine qw_and ?_ ?_
        · refine pt_tru rfl ?_ (by intro _; rfl)
          · refine pp_starts ?_ ?_ (by rfl) (by rfl) (by rfl)
            · exact pp_var (pv 0)
            · exact pp_str
        · refine qw_and1 ?_
          · refine pt_cmp' (op_inA hr.u65) (c_in rfl).bin ?_ ?_ rfl
            · exact pp_str
            · exact pp_var (pv 0)
    · refine ss_cons ?_ ?_
      · refine st_set (i := 2) nd rfl (.inl rfl) ?_ (by rfl) (by first | exact .inl rfl | exact .inr rfl | assumption)
        · refine pp_index ?_ ?_ (by rfl) (by rfl) (by rfl)
          · exact pp_var (pv 0)
          · exact pp_str
      · refine ss_one ?_
        · refine st_par (i := 3) (j := 4) rfl nd rfl rfl (by decide) rfl rfl ?_ (by rfl) (by rfl)
          · refine pq_cons ?_ ?_ (by rfl)
            · refine pp_sl rfl ?_ ?_ ?_
              · exact pp_var (pv 0)
              · refine qo_some ?_
                · refine pp_fun call_lenA (f_len rfl) T.n_len (by decide +kernel) rfl ?_ (by decide) (by decide) (by rfl) (by rfl)
                  · refine pq_cons ?_ ?_ (by rfl)
                    · exact pp_str
                    · exact pq_nil
              · refine qo_some ?_
                · exact pp_var (pv 2)
            · refine pq_cons ?_ ?_ (by rfl)
              · refine pp_sl rfl ?_ ?_ ?_
                · exact pp_var (pv 0)
                · refine qo_some ?_
                  · refine pp_op op_addA (b_add rfl) ?_ ?_
                    · exact pp_var (pv 2)
                    · refine pp_fun call_lenA (f_len rfl) T.n_len (by decide +kernel) rfl ?_ (by decide) (by decide) (by rfl) (by rfl)
                      · refine pq_cons ?_ ?_ (by rfl)
                        · exact pp_str
                        · exact pq_nil
                · exact qo_none
              · exact pq_nil
    · refine ss_one ?_
      · refine st_par (i := 3) (j := 4) rfl nd rfl rfl (by decide) rfl rfl ?_ (by rfl) (by rfl)
        · refine pq_cons ?_ ?_ (by rfl)
          · refine pp_ix rfl ?_ ?_ (by intro _ _; rfl)
            · refine pp_split ?_ ?_ (by rfl) (by rfl) (by rfl)
              · exact pp_var (pv 0)
              · exact pp_str
            · exact pp_int
          · refine pq_cons ?_ ?_ (by rfl)
            · refine pp_sl rfl ?_ ?_ ?_
              · exact pp_var (pv 0)
              · refine qo_some ?_
                · refine pp_op op_addA (b_add rfl) ?_ ?_
                  · refine pp_fun call_lenA (f_len rfl) T.n_len (by decide +kernel) rfl ?_ (by decide) (by decide) (by rfl) (by rfl)
                    · refine pq_cons ?_ ?_ (by rfl)
                      · refine pp_ix rfl ?_ ?_ (by intro _ _; rfl)
                        · refine pp_split ?_ ?_ (by rfl) (by rfl) (by rfl)
                          · exact pp_var (pv 0)
                          · exact pp_str
                        · exact pp_int
                      · exact pq_nil
                  · exact pp_int
              · exact qo_none
            · exact pq_nil
  · refine ss_one ?_
    · refine st_ret ?_
      · refine pp_tup ?_
        · refine pq_cons ?_ ?_ (by rfl)
          · refine pp_if ?_ ?_ ?_
            · refine pt_tru rfl ?_ (by intro _; rfl)
              · refine pc h.f_is_colour (takes_of rfl rfl rfl rfl) hr rfl ?_ (by rfl) (by decide) (by rfl) (by rfl)
                · refine pq_cons ?_ ?_ (by rfl)
                  · exact pp_var (pv 3)
                  · exact pq_nil
            · exact pp_var (pv 3)
            · exact pp_non
          · refine pq_cons ?_ ?_ (by rfl)
            · refine pc h.f_good_region (takes_of rfl rfl rfl rfl) hr rfl ?_ (by rfl) (by decide) (by rfl) (by rfl)
              · refine pq_cons ?_ ?_ (by rfl)
                · exact pp_var (pv 4)
                · refine pq_cons ?_ ?_ (by rfl)
                  · exact pp_var (pv 1)
                  · exact pq_nil
            · exact pq_nil
include T X0 G0 in
theorem ok_head_and_region {k : Nat} (h : Lv P w K mg base k) : FnH P w K mg base (k + 1) "head_and_region" (spP (fx K w) 2 (env (k + 1)).p_head_and_region) := by
  obtain ⟨fd, FD⟩ := T.sy.d.def_ 14 (d := ⟨("head_and_region", none), "head_and_region", "head_and_region", defArgs (top 28), defBody (top 28), defScope (top 28), [], []⟩) rfl
  exact ⟨_, fd, ["line", "names"], He.glo_ok X0 G0 (T.sy.d.fact 14 (f := .glo "head_and_region") rfl), FD.kp, FD.bindsN (fun _ _ _ _ _ _ us hl => match us, hl with | [_, _], _ => rfl), fo_head_and_region T X0 G0 h FD⟩
theorem sc_is_name : FnScope ["word"] ["word"] (defScope (top 29)) := ⟨rfl, rfl, rfl, by decide +kernel, rfl, by decide +kernel, by decide +kernel⟩
include T X0 G0 in
theorem fo_is_name {k : Nat} {fd : FuncData} (h : Lv P w K mg base k) (FD2 : FunD K "is_name" "is_name" (defArgs (top 29)) (defBody (top 29)) (defScope (top 29)) [] [] (He.ga K "is_name") fd) : FnOk P w K mg base (L2.CX P w) (k + 1) (He.ga K "is_name") fd ["word"] (spP (fx K w) 1 (env (k + 1)).p_is_name) := by
  have e0 : (env (k + 1)).p_is_name = runB 1 (d_is_name (env k)) := rfl
  rw [e0]
  have q0 := fn_pure (P := P) (w := w) (mg := mg) (base := base) (k := k) (F := fx K w) (d := d_is_name (env k)) FD2 sc_is_name
  refine q0 fun cdv A outer s H E hr => ?_
  have nd := sc_is_name.nd
  refine ss_one ?_
  · refine st_ret ?_
    · refine pp_and ?_ ?_
      · refine pp_cmp op_notN c_notN.bin ?_ ?_ (nomark _)
        · exact pp_var (pv 0)
        · exact pp_non
      · refine pp_and ?_ ?_
        · refine pp_cmp (op_notInA hr.u65) (c_notIn rfl).bin ?_ ?_ rfl
          · exact pp_var (pv 0)
          · exact pp_gtup T.g_WORDS T.r_WORDS rfl (by decide)
        · refine pp_one ?_
          · refine pp_cmp (op_neD hr.units) (c_ne rfl).bin ?_ ?_ (nomark _)
            · exact pp_var (pv 0)
            · exact pp_str
include T X0 G0 in
theorem ok_is_name {k : Nat} (h : Lv P w K mg base k) : FnH P w K mg base (k + 1) "is_name" (spP (fx K w) 1 (env (k + 1)).p_is_name) := by
  obtain ⟨fd, FD⟩ := T.sy.d.def_ 15 (d := ⟨("is_name", none), "is_name", "is_name", defArgs (top 29), defBody (top 29), defScope (top 29), [], []⟩) rfl
  exact ⟨_, fd, ["word"], He.glo_ok X0 G0 (T.sy.d.fact 15 (f := .glo "is_name") rfl), FD.kp, FD.bindsN (fun _ _ _ _ _ _ us hl => match us, hl with | [_], _ => rfl), fo_is_name T X0 G0 h FD⟩
theorem sc_read_picture : FnScope ["text", "names", "paints", "at", "line", "word", "region", "is_let"] ["text"] (defScope (top 30)) := ⟨rfl, rfl, rfl, by decide +kernel, rfl, by decide +kernel, by decide +kernel⟩
include T X0 G0 in
theorem fo_read_picture {k : Nat} {fd : FuncData} (h : Lv P w K mg base k) (FD2 : FunD K "read_picture" "read_picture" (defArgs (top 30)) (defBody (top 30)) (defScope (top 30)) [] [] (He.ga K "read_picture") fd) : FnOk P w K mg base (L2.CX P w) (k + 1) (He.ga K "read_picture") fd ["text"] (spP (fx K w) 1 (env (k + 1)).p_read_picture) := by
  have e0 : (env (k + 1)).p_read_picture = runB 8 (d_read_picture (env k)) := rfl
  rw [e0]
  have q0 := fn_pure (P := P) (w := w) (mg := mg) (base := base) (k := k) (F := fx K w) (d := d_read_picture (env k)) FD2 sc_read_picture
  refine q0 fun cdv A outer s H E hr => ?_
  have nd := sc_read_picture.nd
  refine ss_cons ?_ ?_
  · exact st_newD (i := 1) nd rfl (.inl rfl) (by rfl) (by first | exact .inl rfl | exact .inr rfl | assumption)
  · refine ss_cons ?_ ?_
    · refine st_newL (i := 2) nd rfl (.inl rfl) ?_ (by rfl) (by first | exact .inl rfl | exact .inr rfl | assumption)
      · exact pq_nil
    · refine ss_cons ?_ ?_
      · refine st_for (passes_of rfl) rfl ?_ (pg_tup rfl (pgs_cons (pg_name (i := 3) nd rfl (by first | exact Or.inl rfl | exact Or.inr rfl)) (pgs_cons (pg_name (i := 4) nd rfl (by first | exact Or.inl rfl | exact Or.inr rfl)) pgs_nil))) (tg_tup rfl (tgs_cons (tgs_cons tgs_nil)) rfl) ?_ (by intro _; rfl)
        · refine qi_enum rfl rfl T.n_enumerate ?_ (by rfl)
          · refine pq_cons ?_ ?_ (by rfl)
            · refine pp_if ?_ ?_ ?_
              · refine pt_tru rfl ?_ (by intro _; rfl)
                · exact pp_var (pv 0)
              · refine pp_split ?_ ?_ (by rfl) (by rfl) (by rfl)
                · exact pp_var (pv 0)
                · exact pp_str
              · refine pp_lst ?_
                · exact pq_nil
            · exact pq_nil
        · refine ss_cons ?_ ?_
          · refine st_asg ?_ (pg_tup rfl (pgs_cons (pg_name (i := 5) nd rfl (by first | exact Or.inl rfl | exact Or.inr rfl)) (pgs_cons (pg_name (i := 6) nd rfl (by first | exact Or.inl rfl | exact Or.inr rfl)) pgs_nil))) (tg_tup rfl (tgs_cons (tgs_cons tgs_nil)) rfl) (by rfl) (by rfl) (by rfl)
            · refine pcb h.f_head_and_region (takes_of rfl rfl rfl rfl) hr rfl (pv 1) ?_ (by decide) (by rfl) (by rfl) (by rfl)
              · exact pp_var (pv 4)
          · refine ss_cons ?_ ?_
            · refine st_set (i := 7) nd rfl (.inl rfl) ?_ (by rfl) (by first | exact .inl rfl | exact .inr rfl | assumption)
              · refine pp_and ?_ ?_
                · refine pp_starts ?_ ?_ (by rfl) (by rfl) (by rfl)
                  · exact pp_var (pv 4)
                  · exact pp_str
                · refine pp_one ?_
                  · refine pp_cmp (op_inA hr.u65) (c_in rfl).bin ?_ ?_ rfl
                    · exact pp_str
                    · exact pp_var (pv 4)
            · refine ss_cons ?_ ?_
              · refine st_if ?_ ?_ ?_
                · refine PW.pt ?_
                  · refine qw_or ?_ ?_
                    · refine pt_cmp' op_isN c_isN.bin ?_ ?_ (nomark _)
                      · exact pp_var (pv 5)
                      · exact pp_non
                    · refine qw_or ?_ ?_
                      · refine pt_cmp' op_isN c_isN.bin ?_ ?_ (nomark _)
                        · exact pp_var (pv 6)
                        · exact pp_non
                      · refine qw_or1 ?_
                        · refine PW.pt ?_
                          · refine qw_and ?_ ?_
                            · refine pt_tru rfl ?_ (by intro _; rfl)
                              · exact pp_var (pv 7)
                            · refine qw_and1 ?_
                              · refine qt_not ?_
                                · refine pt_tru rfl ?_ (by intro _; rfl)
                                  · refine pc h.f_is_name (takes_of rfl rfl rfl rfl) hr rfl ?_ (by rfl) (by decide) (by rfl) (by rfl)
                                    · refine pq_cons ?_ ?_ (by rfl)
                                      · exact pp_var (pv 5)
                                      · exact pq_nil
                · refine ss_one ?_
                  · refine st_raiseA rfl rfl T.low hr (takes_of rfl rfl rfl rfl) ?_ (by rfl) (by rfl) (by rfl)
                    · refine pp_op op_addA (b_add rfl) ?_ ?_
                      · exact pp_var (pv 3)
                      · exact pp_int
                · exact ss_nil
              · refine ss_one ?_
                · refine st_if ?_ ?_ ?_
                  · refine pt_tru rfl ?_ (by intro _; rfl)
                    · exact pp_var (pv 7)
                  · refine ss_one ?_
                    · refine st_putS (hu_of hr) (pv 1) ?_ ?_ (by rfl)
                      · exact pp_var (pv 5)
                      · exact pp_var (pv 6)
                  · refine ss_one ?_
                    · refine st_if ?_ ?_ ?_
                      · refine pt_cmp' (op_eqD hr.units) (c_eq rfl).bin ?_ ?_ (nomark _)
                        · exact pp_lenA rfl T.n_len rfl (pv 2) (by rfl) (by rfl)
                        · exact pp_gint T.g_MOST_PAINTS rfl (by decide)
                      · refine ss_one ?_
                        · refine st_raiseA rfl rfl T.low hr (takes_of rfl rfl rfl rfl) ?_ (by rfl) (by rfl) (by rfl)
                          · refine pp_op op_addA (b_add rfl) ?_ ?_
                            · exact pp_var (pv 3)
                            · exact pp_int
                      · refine ss_one ?_
                        · refine st_app (pv 2) ?_ (by rfl) (by rfl) (by rfl) (by rfl) (by rfl) (by rfl)
                          · refine pp_tup ?_
                            · refine pq_cons ?_ ?_ (by rfl)
                              · exact pp_var (pv 5)
                              · refine pq_cons ?_ ?_ (by rfl)
                                · exact pp_var (pv 6)
                                · exact pq_nil
      · refine ss_one ?_
        · refine st_ret ?_
          · refine pp_ty call_tuple_of (f_tuple rfl) T.n_tuple (by decide +kernel) rfl ?_ (by decide) (by decide) (by rfl) (by rfl)
            · refine pq_cons ?_ ?_ (by rfl)
              · exact pp_rd (pv 2)
              · exact pq_nil
include T X0 G0 in
theorem ok_read_picture {k : Nat} (h : Lv P w K mg base k) : FnH P w K mg base (k + 1) "read_picture" (spP (fx K w) 1 (env (k + 1)).p_read_picture) := by
  obtain ⟨fd, FD⟩ := T.sy.d.def_ 16 (d := ⟨("read_picture", none), "read_picture", "read_picture", defArgs (top 30), defBody (top 30), defScope (top 30), [], []⟩) rfl
  exact ⟨_, fd, ["text"], He.glo_ok X0 G0 (T.sy.d.fact 16 (f := .glo "read_picture") rfl), FD.kp, FD.bindsN (fun _ _ _ _ _ _ us hl => match us, hl with | [_], _ => rfl), fo_read_picture T X0 G0 h FD⟩
theorem sc_l_begin : FnScope ["_law_script"] ["_law_script"] (defScope (top 32)) := ⟨rfl, rfl, rfl, by decide +kernel, rfl, by decide +kernel, by decide +kernel⟩
include T X0 G0 in
theorem fo_l_begin {k : Nat} {fd : FuncData} (h : Lv P w K mg base k) (FD2 : FunD K "_law_begin" "_law_begin" (defArgs (top 32)) (defBody (top 32)) (defScope (top 32)) [] [] (He.ga K "_law_begin") fd) : FnOk P w K mg base (L2.CX P w) (k + 1) (He.ga K "_law_begin") fd ["_law_script"] (spO (fx K w) 1 (env (k + 1)).o_l_begin) := by
  have e0 : (env (k + 1)).o_l_begin = runO 1 (d_l_begin (env k)) := rfl
  rw [e0]
  have q0 := fn_own (P := P) (w := w) (mg := mg) (base := base) (k := k) (F := fx K w) (d := d_l_begin (env k)) FD2 sc_l_begin
  refine q0 fun cdv A outer s H E hr => ?_
  have nd := sc_l_begin.nd
  refine pq_cons ?_ ?_ (by rfl)
  · refine pp_ty call_list_of (f_list rfl) T.n_list (by decide +kernel) rfl ?_ (by decide) (by decide) (by rfl) (by rfl)
    · refine pq_cons ?_ ?_ (by rfl)
      · exact pp_var (pv 0)
      · exact pq_nil
  · refine pq_cons ?_ ?_ (by rfl)
    · exact pp_int
    · refine pq_cons ?_ ?_ (by rfl)
      · exact pp_int
      · refine pq_cons ?_ ?_ (by rfl)
        · exact pp_int
        · exact pq_nil
include T X0 G0 in
theorem ok_l_begin {k : Nat} (h : Lv P w K mg base k) : FnH P w K mg base (k + 1) "_law_begin" (spO (fx K w) 1 (env (k + 1)).o_l_begin) := by
  obtain ⟨fd, FD⟩ := T.sy.d.def_ 17 (d := ⟨("_law_begin", none), "_law_begin", "_law_begin", defArgs (top 32), defBody (top 32), defScope (top 32), [], []⟩) rfl
  exact ⟨_, fd, ["_law_script"], He.glo_ok X0 G0 (T.sy.d.fact 17 (f := .glo "_law_begin") rfl), FD.kp, FD.bindsN (fun _ _ _ _ _ _ us hl => match us, hl with | [_], _ => rfl), fo_l_begin T X0 G0 h FD⟩
theorem sc_l_draw : FnScope ["_law_draws", "_law_size", "_law_cell", "_law_found"] ["_law_draws", "_law_size"] (defScope (top 33)) := ⟨rfl, rfl, rfl, by decide +kernel, rfl, by decide +kernel, by decide +kernel⟩
include T X0 G0 in
theorem fo_l_draw {k : Nat} {fd : FuncData} (h : Lv P w K mg base k) (FD2 : FunD K "_law_draw" "_law_draw" (defArgs (top 33)) (defBody (top 33)) (defScope (top 33)) [] [] (He.ga K "_law_draw") fd) : FnOk P w K mg base (L2.CX P w) (k + 1) (He.ga K "_law_draw") fd ["_law_draws", "_law_size"] (spI (fx K w) 2 (env (k + 1)).i_l_draw) := by
  have e0 : (env (k + 1)).i_l_draw = runI 4 (d_l_draw (env k)) := rfl
  rw [e0]
  have q0 := fn_inp (P := P) (w := w) (mg := mg) (base := base) (k := k) (F := fx K w) (d := d_l_draw (env k)) FD2 sc_l_draw
  refine q0 fun cdv A outer s H E io hr => ?_
  have nd := sc_l_draw.nd
  refine ss_cons ?_ ?_
  · refine st_if ?_ ?_ ?_
    · refine pt_cmp' (op_eqD hr.units) (c_eq rfl).bin ?_ ?_ (nomark _)
      · refine pp_ixM rfl (pv 0) ?_ (by intro _ _; rfl)
        · exact pp_int
      · exact pp_int
    · refine ss_one ?_
      · refine st_if ?_ ?_ ?_
        · refine pt_cmp' op_lt c_lt.bin ?_ ?_ (nomark _)
          · refine pp_ixM rfl (pv 0) ?_ (by intro _ _; rfl)
            · exact pp_int
          · refine pp_fun call_lenA (f_len rfl) T.n_len (by decide +kernel) rfl ?_ (by decide) (by decide) (by rfl) (by rfl)
            · refine pq_cons ?_ ?_ (by rfl)
              · refine pp_ixM rfl (pv 0) ?_ (by intro _ _; rfl)
                · exact pp_int
              · exact pq_nil
        · refine ss_cons ?_ ?_
          · refine st_set (i := 2) nd rfl (.inl rfl) ?_ (by rfl) (by first | exact .inl rfl | exact .inr rfl | assumption)
            · refine pp_ix rfl ?_ ?_ (by intro _ _; rfl)
              · refine pp_ixM rfl (pv 0) ?_ (by intro _ _; rfl)
                · exact pp_int
              · refine pp_ixM rfl (pv 0) ?_ (by intro _ _; rfl)
                · exact pp_int
          · refine ss_cons ?_ ?_
            · refine st_put (pv 0) ?_ ?_ (by rfl) (by rfl) (by rfl) (by intro _; rfl)
              · refine pp_op op_addA (b_add rfl) ?_ ?_
                · refine pp_ixM rfl (pv 0) ?_ (by intro _ _; rfl)
                  · exact pp_int
                · exact pp_int
              · exact pp_int
            · refine ss_one ?_
              · refine st_if ?_ ?_ ?_
                · refine pt_cmp' op_ge c_ge.bin ?_ ?_ (nomark _)
                  · exact pp_var (pv 2)
                  · refine pp_op op_pow b_pow ?_ ?_
                    · exact pp_int
                    · exact pp_int
                · refine ss_one ?_
                  · refine st_put (pv 0) ?_ ?_ (by rfl) (by rfl) (by rfl) (by intro _; rfl)
                    · exact pp_var (pv 2)
                    · exact pp_int
                · refine ss_one ?_
                  · refine st_put (pv 0) ?_ ?_ (by rfl) (by rfl) (by rfl) (by intro _; rfl)
                    · refine pp_op op_mod b_mod ?_ ?_
                      · refine pp_ty call_intA f_intA T.n_int (by decide +kernel) rfl ?_ (by decide) (by decide) (by rfl) (by rfl)
                        · refine pq_cons ?_ ?_ (by rfl)
                          · refine pp_op op_addA (b_add rfl) ?_ ?_
                            · refine pp_op op_addA (b_add rfl) ?_ ?_
                              · refine pp_op op_mulA b_mul ?_ ?_
                                · refine pp_ixM rfl (pv 0) ?_ (by intro _ _; rfl)
                                  · exact pp_int
                                · exact pp_int
                              · refine pp_op op_mulA b_mul ?_ ?_
                                · exact pp_var (pv 2)
                                · exact pp_int
                            · exact pp_int
                          · exact pq_nil
                      · exact pp_int
                    · exact pp_int
        · refine ss_one ?_
          · refine st_put (pv 0) ?_ ?_ (by rfl) (by rfl) (by rfl) (by intro _; rfl)
            · refine pp_op op_mod b_mod ?_ ?_
              · refine pp_ty call_intA f_intA T.n_int (by decide +kernel) rfl ?_ (by decide) (by decide) (by rfl) (by rfl)
                · refine pq_cons ?_ ?_ (by rfl)
                  · refine pp_op op_addA (b_add rfl) ?_ ?_
                    · refine pp_op op_mulA b_mul ?_ ?_
                      · refine pp_ixM rfl (pv 0) ?_ (by intro _ _; rfl)
                        · exact pp_int
                      · exact pp_int
                    · exact pp_int
                  · exact pq_nil
              · exact pp_int
            · exact pp_int
    · exact ss_nil
  · refine ss_cons ?_ ?_
    · refine st_if ?_ ?_ ?_
      · refine pt_cmp' op_gt c_gt.bin ?_ ?_ (nomark _)
        · refine pp_ixM rfl (pv 0) ?_ (by intro _ _; rfl)
          · exact pp_int
        · exact pp_int
      · refine ss_cons ?_ ?_
        · refine st_set (i := 3) nd rfl (.inl rfl) ?_ (by rfl) (by first | exact .inl rfl | exact .inr rfl | assumption)
          · refine pp_op op_mod b_mod ?_ ?_
            · refine pp_ty call_intA f_intA T.n_int (by decide +kernel) rfl ?_ (by decide) (by decide) (by rfl) (by rfl)
              · refine pq_cons ?_ ?_ (by rfl)
                · refine pp_ixM rfl (pv 0) ?_ (by intro _ _; rfl)
                  · exact pp_int
                · exact pq_nil
            · exact pp_var (pv 1)
        · refine ss_cons ?_ ?_
          · refine st_put (pv 0) ?_ ?_ (by rfl) (by rfl) (by rfl) (by intro _; rfl)
            · refine pp_op op_fdivW b_div ?_ ?_
              · refine pp_ixM rfl (pv 0) ?_ (by intro _ _; rfl)
                · exact pp_int
              · exact pp_var (pv 1)
            · exact pp_int
          · refine ss_one ?_
            · refine st_ret ?_
              · exact pp_var (pv 3)
      · exact ss_nil
    · refine ss_one ?_
      · refine st_ret ?_
        · refine pp_op op_mod b_mod ?_ ?_
          · refine pp_op op_mod b_mod ?_ ?_
            · refine pp_ty call_intA f_intA T.n_int (by decide +kernel) rfl ?_ (by decide) (by decide) (by rfl) (by rfl)
              · refine pq_cons ?_ ?_ (by rfl)
                · refine pp_op op_mulA b_mul ?_ ?_
                  · refine pp_ixM rfl (pv 0) ?_ (by intro _ _; rfl)
                    · exact pp_int
                  · exact pp_int
                · exact pq_nil
            · exact pp_int
          · exact pp_var (pv 1)
include T X0 G0 in
theorem ok_l_draw {k : Nat} (h : Lv P w K mg base k) : FnH P w K mg base (k + 1) "_law_draw" (spI (fx K w) 2 (env (k + 1)).i_l_draw) := by
  obtain ⟨fd, FD⟩ := T.sy.d.def_ 18 (d := ⟨("_law_draw", none), "_law_draw", "_law_draw", defArgs (top 33), defBody (top 33), defScope (top 33), [], []⟩) rfl
  exact ⟨_, fd, ["_law_draws", "_law_size"], He.glo_ok X0 G0 (T.sy.d.fact 18 (f := .glo "_law_draw") rfl), FD.kp, FD.bindsN (fun _ _ _ _ _ _ us hl => match us, hl with | [_, _], _ => rfl), fo_l_draw T X0 G0 h FD⟩
theorem sc_l_bad : FnScope ["_law_text", "_law_told"] ["_law_text"] (defScope (top 34)) := ⟨rfl, rfl, rfl, by decide +kernel, rfl, by decide +kernel, by decide +kernel⟩
include T X0 G0 in
theorem fo_l_bad {k : Nat} {fd : FuncData} (h : Lv P w K mg base k) (FD2 : FunD K "_law_bad" "_law_bad" (defArgs (top 34)) (defBody (top 34)) (defScope (top 34)) [] [] (He.ga K "_law_bad") fd) : FnOk P w K mg base (L2.CX P w) (k + 1) (He.ga K "_law_bad") fd ["_law_text"] (spP (fx K w) 1 (env (k + 1)).p_l_bad) := by
  have e0 : (env (k + 1)).p_l_bad = runB 2 (d_l_bad (env k)) := rfl
  rw [e0]
  have q0 := fn_pure (P := P) (w := w) (mg := mg) (base := base) (k := k) (F := fx K w) (d := d_l_bad (env k)) FD2 sc_l_bad
  refine q0 fun cdv A outer s H E hr => ?_
  have nd := sc_l_bad.nd
  refine ss_cons ?_ ?_
  · refine st_set (i := 1) nd rfl (.inl rfl) ?_ (by rfl) (by first | exact .inl rfl | exact .inr rfl | assumption)
    · exact pp_bl
  · refine ss_cons ?_ ?_
    · refine st_try (hs := [(6, (sSet 1 (dC (.bl true))))]) rfl (T.subs.of (by decide)) (by decide) rfl rfl (takes_of rfl rfl rfl rfl) (fun W pn xe tk => ?_) ?_
      · refine ss_one ?_
        · refine st_expr ?_ (by rfl)
          · refine pc h.f_read tk hr rfl ?_ (by rfl) (by decide) (by rfl) (by rfl)
            · refine pq_cons ?_ ?_ (by rfl)
              · exact pp_var (pv 0)
              · exact pq_nil
      · refine HdsOk.cons ⟨rfl, by decide, .inl T.m_BadText⟩ (fun _ _ _ _ _ _ _ => ?_) ?_
        · refine ss_one ?_
          · refine st_set (i := 1) nd rfl (.inl rfl) ?_ (by rfl) (by first | exact .inl rfl | exact .inr rfl | assumption)
            · exact pp_bl
        · exact HdsOk.nil
    · refine ss_one ?_
      · refine st_ret ?_
        · exact pp_var (pv 1)
include T X0 G0 in
theorem ok_l_bad {k : Nat} (h : Lv P w K mg base k) : FnH P w K mg base (k + 1) "_law_bad" (spP (fx K w) 1 (env (k + 1)).p_l_bad) := by
  obtain ⟨fd, FD⟩ := T.sy.d.def_ 19 (d := ⟨("_law_bad", none), "_law_bad", "_law_bad", defArgs (top 34), defBody (top 34), defScope (top 34), [], []⟩) rfl
  exact ⟨_, fd, ["_law_text"], He.glo_ok X0 G0 (T.sy.d.fact 19 (f := .glo "_law_bad") rfl), FD.kp, FD.bindsN (fun _ _ _ _ _ _ us hl => match us, hl with | [_], _ => rfl), fo_l_bad T X0 G0 h FD⟩
theorem sc_l_line : FnScope ["_law_text", "_law_told", "e"] ["_law_text"] (defScope (top 35)) := ⟨rfl, rfl, rfl, by decide +kernel, rfl, by decide +kernel, by decide +kernel⟩
include T X0 G0 in
theorem fo_l_line {k : Nat} {fd : FuncData} (h : Lv P w K mg base k) (FD2 : FunD K "_law_line" "_law_line" (defArgs (top 35)) (defBody (top 35)) (defScope (top 35)) [] [] (He.ga K "_law_line") fd) : FnOk P w K mg base (L2.CX P w) (k + 1) (He.ga K "_law_line") fd ["_law_text"] (spP (fx K w) 1 (env (k + 1)).p_l_line) := by
  have e0 : (env (k + 1)).p_l_line = runB 3 (d_l_line (env k)) := rfl
  rw [e0]
  have q0 := fn_pure (P := P) (w := w) (mg := mg) (base := base) (k := k) (F := fx K w) (d := d_l_line (env k)) FD2 sc_l_line
  refine q0 fun cdv A outer s H E hr => ?_
  have nd := sc_l_line.nd
  refine ss_cons ?_ ?_
  · refine st_set (i := 1) nd rfl (.inl rfl) ?_ (by rfl) (by first | exact .inl rfl | exact .inr rfl | assumption)
    · exact pp_non
  · refine ss_cons ?_ ?_
    · refine st_tryL (i := 2) (j := 1) (n := [7]) rfl rfl (by decide) (T.subs.of (by decide)) rfl T.low rfl rfl nd rfl rfl rfl (.inl rfl) ⟨rfl, by decide, .inl T.m_BadLine⟩ (takes_of rfl rfl rfl rfl) (fun _ _ _ => pv 2) (fun W pn xe tk => ?_) (by rfl) (by first | exact .inl rfl | exact .inr rfl | assumption) (by rfl)
      · refine ss_one ?_
        · refine st_expr ?_ (by rfl)
          · refine pc h.f_read_picture tk hr rfl ?_ (by rfl) (by decide) (by rfl) (by rfl)
            · refine pq_cons ?_ ?_ (by rfl)
              · exact pp_var (pv 0)
              · exact pq_nil
    · refine ss_one ?_
      · refine st_ret ?_
        · exact pp_var (pv 1)
include T X0 G0 in
theorem ok_l_line {k : Nat} (h : Lv P w K mg base k) : FnH P w K mg base (k + 1) "_law_line" (spP (fx K w) 1 (env (k + 1)).p_l_line) := by
  obtain ⟨fd, FD⟩ := T.sy.d.def_ 20 (d := ⟨("_law_line", none), "_law_line", "_law_line", defArgs (top 35), defBody (top 35), defScope (top 35), [], []⟩) rfl
  exact ⟨_, fd, ["_law_text"], He.glo_ok X0 G0 (T.sy.d.fact 20 (f := .glo "_law_line") rfl), FD.kp, FD.bindsN (fun _ _ _ _ _ _ us hl => match us, hl with | [_], _ => rfl), fo_l_line T X0 G0 h FD⟩
theorem sc_law_k10 : FnScope ["_law_script", "_law_draws", "_law_odd", "_law_thing", "_law_lines", "_law_at", "_law_some", "_law_bad_here", "_law_spoilt"] ["_law_script"] (defScope (top 36)) := ⟨rfl, rfl, rfl, by decide +kernel, rfl, by decide +kernel, by decide +kernel⟩
include T X0 G0 in
theorem fo_law_k10 {k : Nat} {fd : FuncData} (h : Lv P w K mg base k) (FD2 : FunD K "law" "law" (defArgs (top 36)) (defBody (top 36)) (defScope (top 36)) [] [] (He.ga K "law") fd) : FnOk P w K mg base (L2.CX P w) (k + 1) (He.ga K "law") fd ["_law_script"] (spP (fx K w) 1 (env (k + 1)).p_law_k10) := by
  have e0 : (env (k + 1)).p_law_k10 = runB 9 (d_law_k10 (env k)) := rfl
  rw [e0]
  have q0 := fn_pure (P := P) (w := w) (mg := mg) (base := base) (k := k) (F := fx K w) (d := d_law_k10 (env k)) FD2 sc_law_k10
  refine q0 fun cdv A outer s H E hr => ?_
  have nd := sc_law_k10.nd
  refine ss_cons ?_ ?_
  · refine sco (i := 1) h.f_l_begin (takes_of rfl rfl rfl rfl) hr nd rfl (.inl rfl) rfl ?_ (by decide) (by rfl) (by rfl) (by rfl) (by first | exact .inl rfl | exact .inr rfl | assumption)
    · refine pq_cons ?_ ?_ (by rfl)
      · exact pp_var (pv 0)
      · exact pq_nil
  · refine ss_cons ?_ ?_
    · refine st_set (i := 2) nd rfl (.inl rfl) ?_ (by rfl) (by first | exact .inl rfl | exact .inr rfl | assumption)
      · refine pp_lst ?_
        · refine pq_cons ?_ ?_ (by rfl)
          · exact pp_str
          · refine pq_cons ?_ ?_ (by rfl)
            · exact pp_str
            · refine pq_cons ?_ ?_ (by rfl)
              · exact pp_str
              · refine pq_cons ?_ ?_ (by rfl)
                · exact pp_str
                · refine pq_cons ?_ ?_ (by rfl)
                  · exact pp_str
                  · refine pq_cons ?_ ?_ (by rfl)
                    · exact pp_str
                    · refine pq_cons ?_ ?_ (by rfl)
                      · exact pp_str
                      · refine pq_cons ?_ ?_ (by rfl)
                        · exact pp_str
                        · refine pq_cons ?_ ?_ (by rfl)
                          · exact pp_str
                          · exact pq_nil
    · refine ss_cons ?_ ?_
      · refine st_set (i := 2) nd rfl (.inl rfl) ?_ (by rfl) (by first | exact .inl rfl | exact .inr rfl | assumption)
        · refine pp_op op_addA (b_add rfl) ?_ ?_
          · exact pp_var (pv 2)
          · refine pp_lst ?_
            · refine pq_cons ?_ ?_ (by rfl)
              · exact pp_str
              · refine pq_cons ?_ ?_ (by rfl)
                · exact pp_str
                · refine pq_cons ?_ ?_ (by rfl)
                  · exact pp_str
                  · refine pq_cons ?_ ?_ (by rfl)
                    · exact pp_str
                    · refine pq_cons ?_ ?_ (by rfl)
                      · exact pp_str
                      · refine pq_cons ?_ ?_ (by rfl)
                        · exact pp_str
                        · refine pq_cons ?_ ?_ (by rfl)
                          · exact pp_str
                          · refine pq_cons ?_ ?_ (by rfl)
                            · exact pp_str
                            · refine pq_cons ?_ ?_ (by rfl)
                              · exact pp_str
                              · exact pq_nil
      · refine ss_cons ?_ ?_
        · refine st_set (i := 2) nd rfl (.inl rfl) ?_ (by rfl) (by first | exact .inl rfl | exact .inr rfl | assumption)
          · refine pp_op op_addA (b_add rfl) ?_ ?_
            · exact pp_var (pv 2)
            · refine pp_lst ?_
              · refine pq_cons ?_ ?_ (by rfl)
                · exact pp_str
                · refine pq_cons ?_ ?_ (by rfl)
                  · exact pp_str
                  · refine pq_cons ?_ ?_ (by rfl)
                    · exact pp_str
                    · refine pq_cons ?_ ?_ (by rfl)
                      · exact pp_str
                      · refine pq_cons ?_ ?_ (by rfl)
                        · exact pp_str
                        · exact pq_nil
        · refine ss_cons ?_ ?_
          · refine st_set (i := 2) nd rfl (.inl rfl) ?_ (by rfl) (by first | exact .inl rfl | exact .inr rfl | assumption)
            · refine pp_op op_addA (b_add rfl) ?_ ?_
              · exact pp_var (pv 2)
              · refine pp_lst ?_
                · refine pq_cons ?_ ?_ (by rfl)
                  · exact pp_str
                  · refine pq_cons ?_ ?_ (by rfl)
                    · exact pp_str
                    · refine pq_cons ?_ ?_ (by rfl)
                      · exact pp_str
                      · refine pq_cons ?_ ?_ (by rfl)
                        · exact pp_str
                        · refine pq_cons ?_ ?_ (by rfl)
                          · exact pp_str
                          · refine pq_cons ?_ ?_ (by rfl)
                            · exact pp_str
                            · refine pq_cons ?_ ?_ (by rfl)
                              · exact pp_str
                              · exact pq_nil
          · refine ss_cons ?_ ?_
            · refine st_set (i := 2) nd rfl (.inl rfl) ?_ (by rfl) (by first | exact .inl rfl | exact .inr rfl | assumption)
              · refine pp_op op_addA (b_add rfl) ?_ ?_
                · exact pp_var (pv 2)
                · refine pp_lst ?_
                  · refine pq_cons ?_ ?_ (by rfl)
                    · exact pp_str
                    · refine pq_cons ?_ ?_ (by rfl)
                      · exact pp_str
                      · refine pq_cons ?_ ?_ (by rfl)
                        · refine pp_op op_addA (b_add rfl) ?_ ?_
                          · refine pp_op op_addA (b_add rfl) ?_ ?_
                            · refine pp_op op_repX (b_rep rfl) ?_ ?_
                              · exact pp_str
                              · exact pp_int
                            · exact pp_str
                          · refine pp_op op_repX (b_rep rfl) ?_ ?_
                            · exact pp_str
                            · exact pp_int
                        · refine pq_cons ?_ ?_ (by rfl)
                          · exact pp_str
                          · refine pq_cons ?_ ?_ (by rfl)
                            · exact pp_str
                            · refine pq_cons ?_ ?_ (by rfl)
                              · exact pp_str
                              · exact pq_nil
            · refine ss_cons ?_ ?_
              · refine st_set (i := 2) nd rfl (.inl rfl) ?_ (by rfl) (by first | exact .inl rfl | exact .inr rfl | assumption)
                · refine pp_op op_addA (b_add rfl) ?_ ?_
                  · exact pp_var (pv 2)
                  · refine pp_lst ?_
                    · refine pq_cons ?_ ?_ (by rfl)
                      · exact pp_str
                      · refine pq_cons ?_ ?_ (by rfl)
                        · exact pp_str
                        · refine pq_cons ?_ ?_ (by rfl)
                          · exact pp_str
                          · refine pq_cons ?_ ?_ (by rfl)
                            · exact pp_str
                            · exact pq_nil
              · refine ss_cons ?_ ?_
                · refine st_set (i := 3) nd rfl (.inl rfl) ?_ (by rfl) (by first | exact .inl rfl | exact .inr rfl | assumption)
                  · refine pp_ix rfl ?_ ?_ (by intro _ _; rfl)
                    · exact pp_var (pv 2)
                    · refine pci h.f_l_draw (takes_of rfl rfl rfl rfl) hr rfl (pv 1) ?_ (by decide) (by rfl) (by rfl)
                      · refine pq_cons ?_ ?_ (by rfl)
                        · refine pp_fun call_lenA (f_len rfl) T.n_len (by decide +kernel) rfl ?_ (by decide) (by decide) (by rfl) (by rfl)
                          · refine pq_cons ?_ ?_ (by rfl)
                            · exact pp_var (pv 2)
                            · exact pq_nil
                        · exact pq_nil
                · refine ss_cons ?_ ?_
                  · refine st_if ?_ ?_ ?_
                    · refine PW.pt ?_
                      · refine qw_or ?_ ?_
                        · refine qt_not ?_
                          · refine pt_tru rfl ?_ (by intro _; rfl)
                            · refine pc h.f_l_bad (takes_of rfl rfl rfl rfl) hr rfl ?_ (by rfl) (by decide) (by rfl) (by rfl)
                              · refine pq_cons ?_ ?_ (by rfl)
                                · exact pp_var (pv 3)
                                · exact pq_nil
                        · refine qw_or1 ?_
                          · refine pt_tru rfl ?_ (by intro _; rfl)
                            · refine pc h.f_l_bad (takes_of rfl rfl rfl rfl) hr rfl ?_ (by rfl) (by decide) (by rfl) (by rfl)
                              · refine pq_cons ?_ ?_ (by rfl)
                                · exact pp_str
                                · exact pq_nil
                    · refine ss_one ?_
                      · refine st_ret ?_
                        · exact pp_bl
                    · exact ss_nil
                  · refine ss_cons ?_ ?_
                    · refine st_set (i := 4) nd rfl (.inl rfl) ?_ (by rfl) (by first | exact .inl rfl | exact .inr rfl | assumption)
                      · refine pp_lst ?_
                        · refine pq_cons ?_ ?_ (by rfl)
                          · exact pp_str
                          · refine pq_cons ?_ ?_ (by rfl)
                            · exact pp_str
                            · refine pq_cons ?_ ?_ (by rfl)
                              · exact pp_str
                              · exact pq_nil
                    · refine ss_cons ?_ ?_
                      · refine st_set (i := 4) nd rfl (.inl rfl) ?_ (by rfl) (by first | exact .inl rfl | exact .inr rfl | assumption)
                        · refine pp_op op_addA (b_add rfl) ?_ ?_
                          · exact pp_var (pv 4)
                          · refine pp_lst ?_
                            · refine pq_cons ?_ ?_ (by rfl)
                              · exact pp_str
                              · refine pq_cons ?_ ?_ (by rfl)
                                · exact pp_str
                                · exact pq_nil
                      · refine ss_cons ?_ ?_
                        · refine st_if ?_ ?_ ?_
                          · refine PW.pt ?_
                            · refine qw_or ?_ ?_
                              · refine pt_cmp' op_notN c_notN.bin ?_ ?_ (nomark _)
                                · refine pc h.f_l_line (takes_of rfl rfl rfl rfl) hr rfl ?_ (by rfl) (by decide) (by rfl) (by rfl)
                                  · refine pq_cons ?_ ?_ (by rfl)
                                    · refine pp_join ?_ ?_ (by rfl) (by rfl) (by rfl)
                                      · exact pp_str
                                      · exact pp_var (pv 4)
                                    · exact pq_nil
                                · exact pp_non
                              · refine qw_or1 ?_
                                · refine pt_cmp' op_notN c_notN.bin ?_ ?_ (nomark _)
                                  · refine pc h.f_l_line (takes_of rfl rfl rfl rfl) hr rfl ?_ (by rfl) (by decide) (by rfl) (by rfl)
                                    · refine pq_cons ?_ ?_ (by rfl)
                                      · exact pp_str
                                      · exact pq_nil
                                  · exact pp_non
                          · refine ss_one ?_
                            · refine st_ret ?_
                              · exact pp_bl
                          · exact ss_nil
                        · refine ss_cons ?_ ?_
                          · refine st_set (i := 5) nd rfl (.inl rfl) ?_ (by rfl) (by first | exact .inl rfl | exact .inr rfl | assumption)
                            · refine pci h.f_l_draw (takes_of rfl rfl rfl rfl) hr rfl (pv 1) ?_ (by decide) (by rfl) (by rfl)
                              · refine pq_cons ?_ ?_ (by rfl)
                                · exact pp_int
                                · exact pq_nil
                          · refine ss_cons ?_ ?_
                            · refine st_set (i := 6) nd rfl (.inl rfl) ?_ (by rfl) (by first | exact .inl rfl | exact .inr rfl | assumption)
                              · refine pp_lst ?_
                                · refine pq_cons ?_ ?_ (by rfl)
                                  · exact pp_str
                                  · refine pq_cons ?_ ?_ (by rfl)
                                    · exact pp_str
                                    · refine pq_cons ?_ ?_ (by rfl)
                                      · exact pp_str
                                      · refine pq_cons ?_ ?_ (by rfl)
                                        · refine pp_op op_addA (b_add rfl) ?_ ?_
                                          · exact pp_str
                                          · exact pp_var (pv 3)
                                        · refine pq_cons ?_ ?_ (by rfl)
                                          · exact pp_str
                                          · refine pq_cons ?_ ?_ (by rfl)
                                            · exact pp_str
                                            · refine pq_cons ?_ ?_ (by rfl)
                                              · exact pp_str
                                              · refine pq_cons ?_ ?_ (by rfl)
                                                · exact pp_str
                                                · refine pq_cons ?_ ?_ (by rfl)
                                                  · exact pp_str
                                                  · exact pq_nil
                            · refine ss_cons ?_ ?_
                              · refine st_set (i := 6) nd rfl (.inl rfl) ?_ (by rfl) (by first | exact .inl rfl | exact .inr rfl | assumption)
                                · refine pp_op op_addA (b_add rfl) ?_ ?_
                                  · exact pp_var (pv 6)
                                  · refine pp_lst ?_
                                    · refine pq_cons ?_ ?_ (by rfl)
                                      · exact pp_str
                                      · refine pq_cons ?_ ?_ (by rfl)
                                        · exact pp_str
                                        · refine pq_cons ?_ ?_ (by rfl)
                                          · refine pp_op op_addA (b_add rfl) ?_ ?_
                                            · exact pp_str
                                            · exact pp_var (pv 3)
                                          · refine pq_cons ?_ ?_ (by rfl)
                                            · exact pp_str
                                            · refine pq_cons ?_ ?_ (by rfl)
                                              · exact pp_str
                                              · exact pq_nil
                              · refine ss_cons ?_ ?_
                                · refine st_set (i := 6) nd rfl (.inl rfl) ?_ (by rfl) (by first | exact .inl rfl | exact .inr rfl | assumption)
                                  · refine pp_op op_addA (b_add rfl) ?_ ?_
                                    · exact pp_var (pv 6)
                                    · refine pp_lst ?_
                                      · refine pq_cons ?_ ?_ (by rfl)
                                        · exact pp_str
                                        · refine pq_cons ?_ ?_ (by rfl)
                                          · exact pp_str
                                          · exact pq_nil
                                · refine ss_cons ?_ ?_
                                  · refine st_set (i := 7) nd rfl (.inl rfl) ?_ (by rfl) (by first | exact .inl rfl | exact .inr rfl | assumption)
                                    · refine pp_ix rfl ?_ ?_ (by intro _ _; rfl)
                                      · exact pp_var (pv 6)
                                      · refine pci h.f_l_draw (takes_of rfl rfl rfl rfl) hr rfl (pv 1) ?_ (by decide) (by rfl) (by rfl)
                                        · refine pq_cons ?_ ?_ (by rfl)
                                          · refine pp_fun call_lenA (f_len rfl) T.n_len (by decide +kernel) rfl ?_ (by decide) (by decide) (by rfl) (by rfl)
                                            · refine pq_cons ?_ ?_ (by rfl)
                                              · exact pp_var (pv 6)
                                              · exact pq_nil
                                          · exact pq_nil
                                  · refine ss_cons ?_ ?_
                                    · refine st_set (i := 8) nd rfl (.inl rfl) ?_ (by rfl) (by first | exact .inl rfl | exact .inr rfl | assumption)
                                      · refine pp_op op_addA (b_add rfl) ?_ ?_
                                        · refine pp_op op_addA (b_add rfl) ?_ ?_
                                          · refine pp_sl rfl ?_ ?_ ?_
                                            · exact pp_var (pv 4)
                                            · exact qo_none
                                            · refine qo_some ?_
                                              · exact pp_var (pv 5)
                                          · refine pp_lst ?_
                                            · refine pq_cons ?_ ?_ (by rfl)
                                              · exact pp_var (pv 7)
                                              · exact pq_nil
                                        · refine pp_sl rfl ?_ ?_ ?_
                                          · exact pp_var (pv 4)
                                          · refine qo_some ?_
                                            · exact pp_var (pv 5)
                                          · exact qo_none
                                    · refine ss_cons ?_ ?_
                                      · refine st_if ?_ ?_ ?_
                                        · refine PW.pt ?_
                                          · refine qw_and ?_ ?_
                                            · refine pt_cmp' (op_notInA hr.u65) (c_notIn rfl).bin ?_ ?_ rfl
                                              · exact pp_str
                                              · exact pp_var (pv 7)
                                            · refine qw_and1 ?_
                                              · refine pt_cmp' (op_neD hr.units) (c_ne rfl).bin ?_ ?_ (nomark _)
                                                · refine pc h.f_l_line (takes_of rfl rfl rfl rfl) hr rfl ?_ (by rfl) (by decide) (by rfl) (by rfl)
                                                  · refine pq_cons ?_ ?_ (by rfl)
                                                    · refine pp_join ?_ ?_ (by rfl) (by rfl) (by rfl)
                                                      · exact pp_str
                                                      · exact pp_var (pv 8)
                                                    · exact pq_nil
                                                · refine pp_op op_addA (b_add rfl) ?_ ?_
                                                  · exact pp_var (pv 5)
                                                  · exact pp_int
                                        · refine ss_one ?_
                                          · refine st_ret ?_
                                            · exact pp_bl
                                        · exact ss_nil
                                      · refine ss_one ?_
                                        · refine st_ret ?_
                                          · refine pp_cmp (op_eqD hr.units) (c_eq rfl).bin ?_ ?_ (nomark _)
                                            · refine pc h.f_l_line (takes_of rfl rfl rfl rfl) hr rfl ?_ (by rfl) (by decide) (by rfl) (by rfl)
                                              · refine pq_cons ?_ ?_ (by rfl)
                                                · refine pp_join ?_ ?_ (by rfl) (by rfl) (by rfl)
                                                  · exact pp_str
                                                  · refine pp_op op_addA (b_add rfl) ?_ ?_
                                                    · refine pp_op op_repX (b_rep rfl) ?_ ?_
                                                      · refine pp_lst ?_
                                                        · refine pq_cons ?_ ?_ (by rfl)
                                                          · exact pp_str
                                                          · exact pq_nil
                                                      · refine pp_op op_addA (b_add rfl) ?_ ?_
                                                        · exact pp_int
                                                        · refine pci h.f_l_draw (takes_of rfl rfl rfl rfl) hr rfl (pv 1) ?_ (by decide) (by rfl) (by rfl)
                                                          · refine pq_cons ?_ ?_ (by rfl)
                                                            · exact pp_int
                                                            · exact pq_nil
                                                    · refine pp_lst ?_
                                                      · refine pq_cons ?_ ?_ (by rfl)
                                                        · exact pp_str
                                                        · exact pq_nil
                                                · exact pq_nil
                                            · exact pp_int
include T X0 G0 in
theorem ok_law_k10 {k : Nat} (h : Lv P w K mg base k) : FnH P w K mg base (k + 1) "law" (spP (fx K w) 1 (env (k + 1)).p_law_k10) := by
  obtain ⟨fd, FD⟩ := T.sy.d.def_ 21 (d := ⟨("law", none), "law", "law", defArgs (top 36), defBody (top 36), defScope (top 36), [], []⟩) rfl
  exact ⟨_, fd, ["_law_script"], He.glo_ok X0 G0 (T.sy.d.fact 21 (f := .glo "law") rfl), FD.kp, FD.bindsN (fun _ _ _ _ _ _ us hl => match us, hl with | [_], _ => rfl), fo_law_k10 T X0 G0 h FD⟩
end
end Pl

set_option maxHeartbeats 0
/-! printed by gen.py: the head of law k10. -/
namespace Pl
open PySem PySem.Spec PyProof.Rows L2 RZ
section
variable {P : Program} {w : World} {K : PySem.W.Frag} {mg : Str → Option Value} {base : Heap} {h : Heap}
variable (T : Txt K w mg) (X0 : K.In h) (G0 : h.Ns mainGlobals mg)
include T X0 G0 in
theorem zero_is_whole : FnH P w K mg base 0 "is_whole" (spP (fx K w) 3 (env 0).p_is_whole) := by
  obtain ⟨fd, FD⟩ := T.sy.d.def_ 0 (d := ⟨("is_whole", none), "is_whole", "is_whole", defArgs (top 9), defBody (top 9), defScope (top 9), [], []⟩) rfl
  refine ⟨_, fd, ["thing", "least", "most"], He.glo_ok X0 G0 (T.sy.d.fact 0 (f := .glo "is_whole") rfl), FD.kp, FD.bindsN (fun _ _ _ _ _ _ us hl => match us, hl with | [_, _, _], _ => rfl), ⟨fun vs H Q E q => ?_, fun _ _ _ H _ _ vs Q E _ _ _ _ q => ?_⟩⟩
  · obtain ⟨_, _, _, _, _, z⟩ := q; exact False.elim z
  · obtain ⟨_, _, _, _, _, z⟩ := q; exact False.elim z
include T X0 G0 in
theorem zero_are_numbers : FnH P w K mg base 0 "are_numbers" (spP (fx K w) 2 (env 0).p_are_numbers) := by
  obtain ⟨fd, FD⟩ := T.sy.d.def_ 1 (d := ⟨("are_numbers", none), "are_numbers", "are_numbers", defArgs (top 10), defBody (top 10), defScope (top 10), [], []⟩) rfl
  refine ⟨_, fd, ["signs", "things"], He.glo_ok X0 G0 (T.sy.d.fact 1 (f := .glo "are_numbers") rfl), FD.kp, FD.bindsN (fun _ _ _ _ _ _ us hl => match us, hl with | [_, _], _ => rfl), ⟨fun vs H Q E q => ?_, fun _ _ _ H _ _ vs Q E _ _ _ _ q => ?_⟩⟩
  · obtain ⟨_, _, _, _, _, z⟩ := q; exact False.elim z
  · obtain ⟨_, _, _, _, _, z⟩ := q; exact False.elim z
include T X0 G0 in
theorem zero_is_nested : FnH P w K mg base 0 "is_nested" (spP (fx K w) 2 (env 0).p_is_nested) := by
  obtain ⟨fd, FD⟩ := T.sy.d.def_ 2 (d := ⟨("is_nested", none), "is_nested", "is_nested", defArgs (top 11), defBody (top 11), defScope (top 11), [], []⟩) rfl
  refine ⟨_, fd, ["thing", "deep"], He.glo_ok X0 G0 (T.sy.d.fact 2 (f := .glo "is_nested") rfl), FD.kp, FD.bindsN (fun _ _ _ _ _ _ us hl => match us, hl with | [_, _], _ => rfl), ⟨fun vs H Q E q => ?_, fun _ _ _ H _ _ vs Q E _ _ _ _ q => ?_⟩⟩
  · obtain ⟨_, _, _, _, _, z⟩ := q; exact False.elim z
  · obtain ⟨_, _, _, _, _, z⟩ := q; exact False.elim z
include T X0 G0 in
theorem zero_is_region : FnH P w K mg base 0 "is_region" (spP (fx K w) 1 (env 0).p_is_region) := by
  obtain ⟨fd, FD⟩ := T.sy.d.def_ 3 (d := ⟨("is_region", none), "is_region", "is_region", defArgs (top 12), defBody (top 12), defScope (top 12), [], []⟩) rfl
  refine ⟨_, fd, ["thing"], He.glo_ok X0 G0 (T.sy.d.fact 3 (f := .glo "is_region") rfl), FD.kp, FD.bindsN (fun _ _ _ _ _ _ us hl => match us, hl with | [_], _ => rfl), ⟨fun vs H Q E q => ?_, fun _ _ _ H _ _ vs Q E _ _ _ _ q => ?_⟩⟩
  · obtain ⟨_, _, _, _, _, z⟩ := q; exact False.elim z
  · obtain ⟨_, _, _, _, _, z⟩ := q; exact False.elim z
include T X0 G0 in
theorem zero_is_colour : FnH P w K mg base 0 "is_colour" (spP (fx K w) 1 (env 0).p_is_colour) := by
  obtain ⟨fd, FD⟩ := T.sy.d.def_ 4 (d := ⟨("is_colour", none), "is_colour", "is_colour", defArgs (top 16), defBody (top 16), defScope (top 16), [], []⟩) rfl
  refine ⟨_, fd, ["thing"], He.glo_ok X0 G0 (T.sy.d.fact 4 (f := .glo "is_colour") rfl), FD.kp, FD.bindsN (fun _ _ _ _ _ _ us hl => match us, hl with | [_], _ => rfl), ⟨fun vs H Q E q => ?_, fun _ _ _ H _ _ vs Q E _ _ _ _ q => ?_⟩⟩
  · obtain ⟨_, _, _, _, _, z⟩ := q; exact False.elim z
  · obtain ⟨_, _, _, _, _, z⟩ := q; exact False.elim z
include T X0 G0 in
theorem zero_number_of : FnH P w K mg base 0 "number_of" (spP (fx K w) 1 (env 0).p_number_of) := by
  obtain ⟨fd, FD⟩ := T.sy.d.def_ 5 (d := ⟨("number_of", none), "number_of", "number_of", defArgs (top 19), defBody (top 19), defScope (top 19), [], []⟩) rfl
  refine ⟨_, fd, ["word"], He.glo_ok X0 G0 (T.sy.d.fact 5 (f := .glo "number_of") rfl), FD.kp, FD.bindsN (fun _ _ _ _ _ _ us hl => match us, hl with | [_], _ => rfl), ⟨fun vs H Q E q => ?_, fun _ _ _ H _ _ vs Q E _ _ _ _ q => ?_⟩⟩
  · obtain ⟨_, _, _, _, _, z⟩ := q; exact False.elim z
  · obtain ⟨_, _, _, _, _, z⟩ := q; exact False.elim z
include T X0 G0 in
theorem zero_numbers_of : FnH P w K mg base 0 "numbers_of" (spP (fx K w) 1 (env 0).p_numbers_of) := by
  obtain ⟨fd, FD⟩ := T.sy.d.def_ 6 (d := ⟨("numbers_of", none), "numbers_of", "numbers_of", defArgs (top 20), defBody (top 20), defScope (top 20), [], []⟩) rfl
  refine ⟨_, fd, ["words"], He.glo_ok X0 G0 (T.sy.d.fact 6 (f := .glo "numbers_of") rfl), FD.kp, FD.bindsN (fun _ _ _ _ _ _ us hl => match us, hl with | [_], _ => rfl), ⟨fun vs H Q E q => ?_, fun _ _ _ H _ _ vs Q E _ _ _ _ q => ?_⟩⟩
  · obtain ⟨_, _, _, _, _, z⟩ := q; exact False.elim z
  · obtain ⟨_, _, _, _, _, z⟩ := q; exact False.elim z
include T X0 G0 in
theorem zero_cut : FnH P w K mg base 0 "cut" (spP (fx K w) 1 (env 0).p_cut) := by
  obtain ⟨fd, FD⟩ := T.sy.d.def_ 7 (d := ⟨("cut", none), "cut", "cut", defArgs (top 21), defBody (top 21), defScope (top 21), [], []⟩) rfl
  refine ⟨_, fd, ["text"], He.glo_ok X0 G0 (T.sy.d.fact 7 (f := .glo "cut") rfl), FD.kp, FD.bindsN (fun _ _ _ _ _ _ us hl => match us, hl with | [_], _ => rfl), ⟨fun vs H Q E q => ?_, fun _ _ _ H _ _ vs Q E _ _ _ _ q => ?_⟩⟩
  · obtain ⟨_, _, _, _, _, z⟩ := q; exact False.elim z
  · obtain ⟨_, _, _, _, _, z⟩ := q; exact False.elim z
include T X0 G0 in
theorem zero_plain_in : FnH P w K mg base 0 "plain_in" (spP (fx K w) 2 (env 0).p_plain_in) := by
  obtain ⟨fd, FD⟩ := T.sy.d.def_ 8 (d := ⟨("plain_in", none), "plain_in", "plain_in", defArgs (top 22), defBody (top 22), defScope (top 22), [], []⟩) rfl
  refine ⟨_, fd, ["text", "names"], He.glo_ok X0 G0 (T.sy.d.fact 8 (f := .glo "plain_in") rfl), FD.kp, FD.bindsN (fun _ _ _ _ _ _ us hl => match us, hl with | [_, _], _ => rfl), ⟨fun vs H Q E q => ?_, fun _ _ _ H _ _ vs Q E _ _ _ _ q => ?_⟩⟩
  · obtain ⟨_, _, _, _, _, z⟩ := q; exact False.elim z
  · obtain ⟨_, _, _, _, _, z⟩ := q; exact False.elim z
include T X0 G0 in
theorem zero_moved_in : FnH P w K mg base 0 "moved_in" (spP (fx K w) 2 (env 0).p_moved_in) := by
  obtain ⟨fd, FD⟩ := T.sy.d.def_ 9 (d := ⟨("moved_in", none), "moved_in", "moved_in", defArgs (top 23), defBody (top 23), defScope (top 23), [], []⟩) rfl
  refine ⟨_, fd, ["parts", "names"], He.glo_ok X0 G0 (T.sy.d.fact 9 (f := .glo "moved_in") rfl), FD.kp, FD.bindsN (fun _ _ _ _ _ _ us hl => match us, hl with | [_, _], _ => rfl), ⟨fun vs H Q E q => ?_, fun _ _ _ H _ _ vs Q E _ _ _ _ q => ?_⟩⟩
  · obtain ⟨_, _, _, _, _, z⟩ := q; exact False.elim z
  · obtain ⟨_, _, _, _, _, z⟩ := q; exact False.elim z
include T X0 G0 in
theorem zero_region_in : FnH P w K mg base 0 "region_in" (spP (fx K w) 2 (env 0).p_region_in) := by
  obtain ⟨fd, FD⟩ := T.sy.d.def_ 10 (d := ⟨("region_in", none), "region_in", "region_in", defArgs (top 24), defBody (top 24), defScope (top 24), [], []⟩) rfl
  refine ⟨_, fd, ["text", "names"], He.glo_ok X0 G0 (T.sy.d.fact 10 (f := .glo "region_in") rfl), FD.kp, FD.bindsN (fun _ _ _ _ _ _ us hl => match us, hl with | [_, _], _ => rfl), ⟨fun vs H Q E q => ?_, fun _ _ _ H _ _ vs Q E _ _ _ _ q => ?_⟩⟩
  · obtain ⟨_, _, _, _, _, z⟩ := q; exact False.elim z
  · obtain ⟨_, _, _, _, _, z⟩ := q; exact False.elim z
include T X0 G0 in
theorem zero_brackets : FnH P w K mg base 0 "brackets" (spP (fx K w) 1 (env 0).p_brackets) := by
  obtain ⟨fd, FD⟩ := T.sy.d.def_ 11 (d := ⟨("brackets", none), "brackets", "brackets", defArgs (top 25), defBody (top 25), defScope (top 25), [], []⟩) rfl
  refine ⟨_, fd, ["text"], He.glo_ok X0 G0 (T.sy.d.fact 11 (f := .glo "brackets") rfl), FD.kp, FD.bindsN (fun _ _ _ _ _ _ us hl => match us, hl with | [_], _ => rfl), ⟨fun vs H Q E q => ?_, fun _ _ _ H _ _ vs Q E _ _ _ _ q => ?_⟩⟩
  · obtain ⟨_, _, _, _, _, z⟩ := q; exact False.elim z
  · obtain ⟨_, _, _, _, _, z⟩ := q; exact False.elim z
include T X0 G0 in
theorem zero_good_region : FnH P w K mg base 0 "good_region" (spP (fx K w) 2 (env 0).p_good_region) := by
  obtain ⟨fd, FD⟩ := T.sy.d.def_ 12 (d := ⟨("good_region", none), "good_region", "good_region", defArgs (top 26), defBody (top 26), defScope (top 26), [], []⟩) rfl
  refine ⟨_, fd, ["text", "names"], He.glo_ok X0 G0 (T.sy.d.fact 12 (f := .glo "good_region") rfl), FD.kp, FD.bindsN (fun _ _ _ _ _ _ us hl => match us, hl with | [_, _], _ => rfl), ⟨fun vs H Q E q => ?_, fun _ _ _ H _ _ vs Q E _ _ _ _ q => ?_⟩⟩
  · obtain ⟨_, _, _, _, _, z⟩ := q; exact False.elim z
  · obtain ⟨_, _, _, _, _, z⟩ := q; exact False.elim z
include T X0 G0 in
theorem zero_read : FnH P w K mg base 0 "read" (spP (fx K w) 1 (env 0).p_read) := by
  obtain ⟨fd, FD⟩ := T.sy.d.def_ 13 (d := ⟨("read", none), "read", "read", defArgs (top 27), defBody (top 27), defScope (top 27), [], []⟩) rfl
  refine ⟨_, fd, ["text"], He.glo_ok X0 G0 (T.sy.d.fact 13 (f := .glo "read") rfl), FD.kp, FD.bindsN (fun _ _ _ _ _ _ us hl => match us, hl with | [_], _ => rfl), ⟨fun vs H Q E q => ?_, fun _ _ _ H _ _ vs Q E _ _ _ _ q => ?_⟩⟩
  · obtain ⟨_, _, _, _, _, z⟩ := q; exact False.elim z
  · obtain ⟨_, _, _, _, _, z⟩ := q; exact False.elim z
include T X0 G0 in
theorem zero_head_and_region : FnH P w K mg base 0 "head_and_region" (spP (fx K w) 2 (env 0).p_head_and_region) := by
  obtain ⟨fd, FD⟩ := T.sy.d.def_ 14 (d := ⟨("head_and_region", none), "head_and_region", "head_and_region", defArgs (top 28), defBody (top 28), defScope (top 28), [], []⟩) rfl
  refine ⟨_, fd, ["line", "names"], He.glo_ok X0 G0 (T.sy.d.fact 14 (f := .glo "head_and_region") rfl), FD.kp, FD.bindsN (fun _ _ _ _ _ _ us hl => match us, hl with | [_, _], _ => rfl), ⟨fun vs H Q E q => ?_, fun _ _ _ H _ _ vs Q E _ _ _ _ q => ?_⟩⟩
  · obtain ⟨_, _, _, _, _, z⟩ := q; exact False.elim z
  · obtain ⟨_, _, _, _, _, z⟩ := q; exact False.elim z
include T X0 G0 in
theorem zero_is_name : FnH P w K mg base 0 "is_name" (spP (fx K w) 1 (env 0).p_is_name) := by
  obtain ⟨fd, FD⟩ := T.sy.d.def_ 15 (d := ⟨("is_name", none), "is_name", "is_name", defArgs (top 29), defBody (top 29), defScope (top 29), [], []⟩) rfl
  refine ⟨_, fd, ["word"], He.glo_ok X0 G0 (T.sy.d.fact 15 (f := .glo "is_name") rfl), FD.kp, FD.bindsN (fun _ _ _ _ _ _ us hl => match us, hl with | [_], _ => rfl), ⟨fun vs H Q E q => ?_, fun _ _ _ H _ _ vs Q E _ _ _ _ q => ?_⟩⟩
  · obtain ⟨_, _, _, _, _, z⟩ := q; exact False.elim z
  · obtain ⟨_, _, _, _, _, z⟩ := q; exact False.elim z
include T X0 G0 in
theorem zero_read_picture : FnH P w K mg base 0 "read_picture" (spP (fx K w) 1 (env 0).p_read_picture) := by
  obtain ⟨fd, FD⟩ := T.sy.d.def_ 16 (d := ⟨("read_picture", none), "read_picture", "read_picture", defArgs (top 30), defBody (top 30), defScope (top 30), [], []⟩) rfl
  refine ⟨_, fd, ["text"], He.glo_ok X0 G0 (T.sy.d.fact 16 (f := .glo "read_picture") rfl), FD.kp, FD.bindsN (fun _ _ _ _ _ _ us hl => match us, hl with | [_], _ => rfl), ⟨fun vs H Q E q => ?_, fun _ _ _ H _ _ vs Q E _ _ _ _ q => ?_⟩⟩
  · obtain ⟨_, _, _, _, _, z⟩ := q; exact False.elim z
  · obtain ⟨_, _, _, _, _, z⟩ := q; exact False.elim z
include T X0 G0 in
theorem zero_l_begin : FnH P w K mg base 0 "_law_begin" (spO (fx K w) 1 (env 0).o_l_begin) := by
  obtain ⟨fd, FD⟩ := T.sy.d.def_ 17 (d := ⟨("_law_begin", none), "_law_begin", "_law_begin", defArgs (top 32), defBody (top 32), defScope (top 32), [], []⟩) rfl
  refine ⟨_, fd, ["_law_script"], He.glo_ok X0 G0 (T.sy.d.fact 17 (f := .glo "_law_begin") rfl), FD.kp, FD.bindsN (fun _ _ _ _ _ _ us hl => match us, hl with | [_], _ => rfl), ⟨fun vs H Q E q => ?_, fun _ _ _ H _ _ vs Q E _ _ _ _ q => ?_⟩⟩
  · obtain ⟨_, _, _, _, _, z⟩ := q; exact False.elim z
  · obtain ⟨_, _, _, _, _, z⟩ := q; exact False.elim z
include T X0 G0 in
theorem zero_l_draw : FnH P w K mg base 0 "_law_draw" (spI (fx K w) 2 (env 0).i_l_draw) := by
  obtain ⟨fd, FD⟩ := T.sy.d.def_ 18 (d := ⟨("_law_draw", none), "_law_draw", "_law_draw", defArgs (top 33), defBody (top 33), defScope (top 33), [], []⟩) rfl
  refine ⟨_, fd, ["_law_draws", "_law_size"], He.glo_ok X0 G0 (T.sy.d.fact 18 (f := .glo "_law_draw") rfl), FD.kp, FD.bindsN (fun _ _ _ _ _ _ us hl => match us, hl with | [_, _], _ => rfl), ⟨fun vs H Q E q => ?_, fun _ _ _ H _ _ vs Q E _ _ _ _ q => ?_⟩⟩
  · obtain ⟨_, _, _, _, _, _, _, _, _, _, _, z⟩ := q; exact False.elim z
  · obtain ⟨_, _, _, _, _, _, _, _, _, _, _, z⟩ := q; exact False.elim z
include T X0 G0 in
theorem zero_l_bad : FnH P w K mg base 0 "_law_bad" (spP (fx K w) 1 (env 0).p_l_bad) := by
  obtain ⟨fd, FD⟩ := T.sy.d.def_ 19 (d := ⟨("_law_bad", none), "_law_bad", "_law_bad", defArgs (top 34), defBody (top 34), defScope (top 34), [], []⟩) rfl
  refine ⟨_, fd, ["_law_text"], He.glo_ok X0 G0 (T.sy.d.fact 19 (f := .glo "_law_bad") rfl), FD.kp, FD.bindsN (fun _ _ _ _ _ _ us hl => match us, hl with | [_], _ => rfl), ⟨fun vs H Q E q => ?_, fun _ _ _ H _ _ vs Q E _ _ _ _ q => ?_⟩⟩
  · obtain ⟨_, _, _, _, _, z⟩ := q; exact False.elim z
  · obtain ⟨_, _, _, _, _, z⟩ := q; exact False.elim z
include T X0 G0 in
theorem zero_l_line : FnH P w K mg base 0 "_law_line" (spP (fx K w) 1 (env 0).p_l_line) := by
  obtain ⟨fd, FD⟩ := T.sy.d.def_ 20 (d := ⟨("_law_line", none), "_law_line", "_law_line", defArgs (top 35), defBody (top 35), defScope (top 35), [], []⟩) rfl
  refine ⟨_, fd, ["_law_text"], He.glo_ok X0 G0 (T.sy.d.fact 20 (f := .glo "_law_line") rfl), FD.kp, FD.bindsN (fun _ _ _ _ _ _ us hl => match us, hl with | [_], _ => rfl), ⟨fun vs H Q E q => ?_, fun _ _ _ H _ _ vs Q E _ _ _ _ q => ?_⟩⟩
  · obtain ⟨_, _, _, _, _, z⟩ := q; exact False.elim z
  · obtain ⟨_, _, _, _, _, z⟩ := q; exact False.elim z
include T X0 G0 in
theorem zero_law_k10 : FnH P w K mg base 0 "law" (spP (fx K w) 1 (env 0).p_law_k10) := by
  obtain ⟨fd, FD⟩ := T.sy.d.def_ 21 (d := ⟨("law", none), "law", "law", defArgs (top 36), defBody (top 36), defScope (top 36), [], []⟩) rfl
  refine ⟨_, fd, ["_law_script"], He.glo_ok X0 G0 (T.sy.d.fact 21 (f := .glo "law") rfl), FD.kp, FD.bindsN (fun _ _ _ _ _ _ us hl => match us, hl with | [_], _ => rfl), ⟨fun vs H Q E q => ?_, fun _ _ _ H _ _ vs Q E _ _ _ _ q => ?_⟩⟩
  · obtain ⟨_, _, _, _, _, z⟩ := q; exact False.elim z
  · obtain ⟨_, _, _, _, _, z⟩ := q; exact False.elim z
include T X0 G0 in
theorem lv : ∀ k, Lv P w K mg base k
  | 0 => ⟨zero_is_whole T X0 G0, zero_are_numbers T X0 G0, zero_is_nested T X0 G0, zero_is_region T X0 G0, zero_is_colour T X0 G0, zero_number_of T X0 G0, zero_numbers_of T X0 G0, zero_cut T X0 G0, zero_plain_in T X0 G0, zero_moved_in T X0 G0, zero_region_in T X0 G0, zero_brackets T X0 G0, zero_good_region T X0 G0, zero_read T X0 G0, zero_head_and_region T X0 G0, zero_is_name T X0 G0, zero_read_picture T X0 G0, zero_l_begin T X0 G0, zero_l_draw T X0 G0, zero_l_bad T X0 G0, zero_l_line T X0 G0, zero_law_k10 T X0 G0⟩
  | k + 1 => ⟨ok_is_whole T X0 G0 (lv k), ok_are_numbers T X0 G0 (lv k), ok_is_nested T X0 G0 (lv k), ok_is_region T X0 G0 (lv k), ok_is_colour T X0 G0 (lv k), ok_number_of T X0 G0 (lv k), ok_numbers_of T X0 G0 (lv k), ok_cut T X0 G0 (lv k), ok_plain_in T X0 G0 (lv k), ok_moved_in T X0 G0 (lv k), ok_region_in T X0 G0 (lv k), ok_brackets T X0 G0 (lv k), ok_good_region T X0 G0 (lv k), ok_read T X0 G0 (lv k), ok_head_and_region T X0 G0 (lv k), ok_is_name T X0 G0 (lv k), ok_read_picture T X0 G0 (lv k), ok_l_begin T X0 G0 (lv k), ok_l_draw T X0 G0 (lv k), ok_l_bad T X0 G0 (lv k), ok_l_line T X0 G0 (lv k), ok_law_k10 T X0 G0 (lv k)⟩
end
abbrev R : PySem.W.OpenRow := PySem.W.OpenLaw.row PySem.Challenge.rw_anysheet_k10_texts_refused
abbrev hk : PySem.W.Hook := He.hookX 6 fcs dfs tbs [] exs
def ob (s : PySem.W.SharedT) : He.AlX := He.obsX 6 fcs dfs tbs [] exs (HandSHeadRun.getT s)
theorem ob_eq (s : PySem.W.SharedT) : ob s = hk.obs s.abs := He.obsX_eq (HandSHeadRun.getT_eq s)
def loose : List Str := (["SheetError", "BadText", "BadLine", "MOST_DEEP", "PLAIN", "INNER", "WORDS", "is_whole", "are_numbers", "is_nested", "is_region", "SMALL", "MOST_PAINTS", "is_colour", "FIGURES", "number_of", "numbers_of", "cut", "plain_in", "moved_in", "region_in", "brackets", "good_region", "read", "head_and_region", "is_name", "read_picture", "_law_begin", "_law_draw", "_law_bad", "_law_line"] : List Str)
theorem run1 (b : Bool) (w : World) : HandSHeadRun.RunEq R (PySem.W.view R.prog [36]) hk ob 20000 loose (w.withFollow "special-get-raises" b) := by
  intro os
  cases b <;> kernel_rfl
theorem run (w : World) : HandSHeadRun.RunEq R (PySem.W.view R.prog [36]) hk ob 20000 loose w := PySem.W.byRow2 "special-get-raises" (P := fun w => HandSHeadRun.RunEq R (PySem.W.view R.prog [36]) hk ob 20000 loose w) (fun w => run1 false w) (fun w => run1 true w) w
theorem facts {P : Program} {w : World} {K : PySem.W.Frag} {h : Heap} {mg : Str → Option Value} {f : Addr} (X : K.In h) (G : h.Ns mainGlobals mg) (hfa : mg ("law" : Str) = some (.ref f)) (c : He.SaysX fcs dfs tbs [] exs w h K) (k : Nat) :
    ∃ fd : FuncData, (∀ (s : Shared) (v : Value), BindsTo s fd ⟨[v], []⟩ [("_law_script", v)]) ∧ ∀ base : Heap, FnOk P w K mg base (L2.CX P w) (k + 1) f fd ["_law_script"] (spP (fx K w) 1 (env (k + 1)).p_law_k10) := by
  have T := txt_of X G c.t c.more
  obtain ⟨fd, FD⟩ := T.sy.d.def_ 21 (d := ⟨("law", none), "law", "law", defArgs (top 36), defBody (top 36), defScope (top 36), [], []⟩) rfl
  have m1 := He.glo_ok X G (T.sy.d.fact 21 (f := .glo "law") rfl)
  have e := hfa.symm.trans m1
  cases e
  have b := FunD.bindsA (ps := ["_law_script"]) FD fun _ _ _ _ _ _ us hl => match us, hl with | [_], _ => rfl
  refine ⟨fd, fun s v => b s [v] rfl, fun base => ?_⟩
  exact fo_law_k10 T X G (lv T X G k) FD
end Pl

set_option maxHeartbeats 0
/-! printed by gen.py: the end of law k10. -/
namespace Pl
open PySem PySem.Spec PyProof.Rows L2 RZ PySem.W PySem.Calls
theorem end_of (n : Nat) (hr : Room (n + 1) callerA) (L : ∀ ns : List Int, ns.length ≤ 63 → (env (n + 1)).p_law_k10 [.scr ns] = .ok (.bl true)) : PySem.Challenge.rw_anysheet_k10_texts_refused.Holds := by
  w_on; o_law
  refine HandSHeadRun.head_any (r := R) (q := PySem.W.view R.prog [36]) (H := hk) (ob := ob) (M := 20000) (loose := loose) (d := HandSHeadRun.topDef R.prog 36) (kwd := []) ob_eq
    (by kernel_rfl) (fun s => by kernel_rfl) run (by kernel_rfl) (by kernel_rfl) (by kernel_rfl) (by rfl) (by first | assumption | decide +kernel) (by decide +kernel) ⟨rfl, rfl, rfl, rfl, rfl, by decide +kernel⟩ ?hw ?hc
  case hw => w_witness2
  case hc =>
    refine LamX.walk_ofTsE (l := PySem.Challenge.rw_anysheet_k10_texts_refused) (n := 63) (k := n + 1) (x := "_law_script") (CX := fun w => L2.CX R.prog w) rfl (by decide) (by kernel_rfl) hr ?F ?C
    case C =>
      intro w H s e s' h
      obtain ⟨_, _, _, _, _, _, _, _, _, _, _, _, z⟩ := h
      exact z
    case F =>
      intro w mg fa h Y G hmg0
      obtain ⟨K, KX, c⟩ := Y
      have hmg : mg ("law" : PySem.Str) = some (.ref fa) := by
        have e : (HandSHeadRun.topDef R.prog 36).name = ("law" : PySem.Str) := by kernel_rfl
        rw [← e]
        exact hmg0
      obtain ⟨fd, hb, hF⟩ := facts (P := R.prog) (w := w) KX G hmg c n
      refine ⟨K, KX, fd, [], spP (fx K w) 1 (env (n + 1)).p_law_k10, (fun _ z => absurd z List.not_mem_nil), (fun _ z => absurd z List.not_mem_nil), (fun _ z => absurd z List.not_mem_nil), hb, ?_, fun base _ _ _ => hF base⟩
      intro H a ns hl _ _ hS
      refine ⟨rfl, H, [.scr ns], Same.refl H, .cons (.scr hS) .nil, ?_⟩
      rw [L ns hl]
      intro v G' H' g r
      cases r
      rfl
end Pl

set_option maxHeartbeats 4000000
/-! QD: the draws. -/
namespace Pl
open PySem PySem.Spec PyProof.Rows L2
def Sd (ns : List Int) (p : Nat) (a b : Int) : PV := .lst [.lst (ns.map PV.int), .int (p : Int), .int a, .int b]
/-- a state of the draws -/
def IsSd (ns : List Int) (c : PV) : Prop := ∃ (p : Nat) (a b : Int), 0 ≤ a ∧ c = Sd ns p a b
theorem if_tt {t : DD Bool} {a b : DS} {ρ : Rho} {k : Bool} (h : t ρ = .ok k ρ) (hk : k = true) : sIf t a b ρ = a ρ := by
  subst hk
  simp [sIf, h, Res.toOut]
theorem if_ff {t : DD Bool} {a b : DS} {ρ : Rho} {k : Bool} (h : t ρ = .ok k ρ) (hk : k = false) : sIf t a b ρ = b ρ := by
  subst hk
  simp [sIf, h, Res.toOut]
theorem seq_nx {d t : DS} {ρ ρ' : Rho} (h : d ρ = .nx ρ') : sSeq d t ρ = t ρ' := by
  simp [sSeq, h, Out.thn]
theorem seq_rt {d t : DS} {ρ ρ' : Rho} {p : PV} (h : d ρ = .rt p ρ') : sSeq d t ρ = .rt p ρ' := by
  simp [sSeq, h, Out.thn]
theorem set_nx {d : DE} {i : Nat} {ρ ρ' : Rho} {x : PV} (h : d ρ = .ok x ρ') : sSet i d ρ = .nx (ρ'.set i (some (.val x))) := by
  simp [sSet, h, Res.toOut]
theorem at_ints (ns : List Int) (p : Nat) (h : p < ns.length) : pIx (.lst (ns.map PV.int)) (.int (p : Int)) = some (.int ns[p]) := by
  have e : ((p : Int) < (ns.length : Int)) := by omega
  simp [pIx, atI, ixN, e, h]
def R4 (c : PV) (size : Int) (x y : Option SV) : Rho := [some (.inp c), some (.val (.int size)), x, y]
theorem draw_ok (ns : List Int) {c : PV} (hc : IsSd ns c) (e : Nat) {size : Int} (hs : 0 < size) (hs2 : size < 1000) : ∃ r c', (env (e + 1)).i_l_draw c [.int size] = .ok (.int r) c' ∧ IsSd ns c' ∧ 0 ≤ r ∧ r < size := by
  obtain ⟨p, a, b, ha, rfl⟩ := hc
  show ∃ r c', runI 4 (d_l_draw (env e)) _ _ = _ ∧ _
  generalize env e = E
  -- the state behind the first half
  have h1 : ∃ p' a' b' x', 0 ≤ a' ∧ (sIf (dAsB (dBin pEq (dIxM 0 (dC (.int 2))) (dC (.int 0)))) (sIf (dAsB (dBin pLt (dIxM 0 (dC (.int 1))) (dFun fLen (dCons (dIxM 0 (dC (.int 0))) dNil)))) (sSeq (sSet 2 (dBin pIx (dIxM 0 (dC (.int 0))) (dIxM 0 (dC (.int 1)))))
    (sSeq (sPut 0 (dBin pAdd (dIxM 0 (dC (.int 1))) (dC (.int 1))) (dC (.int 1)))
    (sIf (dAsB (dBin pGe (dVar 2) (dBin pPow (dC (.int 10)) (dC (.int 18))))) (sPut 0 (dVar 2) (dC (.int 2))) (sPut 0 (dBin pMod (dFun fIntA (dCons (dBin pAdd (dBin pAdd (dBin pMul (dIxM 0 (dC (.int 3))) (dC (.int 48271))) (dBin pMul (dVar 2) (dC (.int 69621)))) (dC (.int 11))) dNil)) (dC (.int 2147483647))) (dC (.int 3)))))) (sPut 0 (dBin pMod (dFun fIntA (dCons (dBin pAdd (dBin pMul (dIxM 0 (dC (.int 3))) (dC (.int 48271))) (dC (.int 7))) dNil)) (dC (.int 2147483647))) (dC (.int 3)))) sNil) (R4 (Sd ns p a b) size none none) = .nx (R4 (Sd ns p' a' b') size x' none) := by
    by_cases h0 : a = 0
    · subst h0
      by_cases hp : p < ns.length
      · have c3 : decide (((p : Int)) < ((ns.map PV.int).length : Int)) = true := by simp; exact hp
        have k : ∀ {ρ : Rho}, ofO (pIx (.lst (ns.map PV.int)) (.int (p : Int))) ρ = .ok (.int ns[p]) ρ := by
          intro ρ
          rw [at_ints ns p hp]
          rfl
        have s1 : sSet 2 (dBin pIx (dIxM 0 (dC (.int 0))) (dIxM 0 (dC (.int 1)))) (R4 (Sd ns p 0 b) size none none) = .nx (R4 (Sd ns p 0 b) size (some (.val (.int ns[p]))) none) := by
          refine Eq.trans (set_nx (ρ' := R4 (Sd ns p 0 b) size none none) (x := .int ns[p]) (Eq.trans ?_ k)) rfl
          kernel_rfl
        generalize ns[p] = z at *
        have m1 : ∀ b : Int, pMul (.int b) (.int 48271) = some (.int (b * 48271)) := fun b => by simp [pMul]
        have m2 : ∀ b : Int, pMul (.int b) (.int 69621) = some (.int (b * 69621)) := fun b => by simp [pMul]
        by_cases hz : (1000000000000000000 : Int) ≤ z
        · refine ⟨p + 1, z, b, some (.val (.int z)), by omega, ?_⟩
          refine Eq.trans (if_tt (k := decide ((0:Int) = 0)) (by kernel_rfl) rfl) ?_
          refine Eq.trans (if_tt (k := decide (((p : Int)) < ((ns.map PV.int).length : Int))) (by kernel_rfl) c3) ?_
          refine Eq.trans (seq_nx s1) ?_
          refine Eq.trans (seq_nx (ρ' := R4 (Sd ns (p + 1) 0 b) size (some (.val (.int z))) none) (by kernel_rfl)) ?_
          refine Eq.trans (if_tt (k := decide ((1000000000000000000 : Int) ≤ z)) (by kernel_rfl) (decide_eq_true hz)) ?_
          kernel_rfl
        · refine ⟨p + 1, 0, (b * 48271 + z * 69621 + 11) % 2147483647, some (.val (.int z)), by omega, ?_⟩
          refine Eq.trans (if_tt (k := decide ((0:Int) = 0)) (by kernel_rfl) rfl) ?_
          refine Eq.trans (if_tt (k := decide (((p : Int)) < ((ns.map PV.int).length : Int))) (by kernel_rfl) c3) ?_
          refine Eq.trans (seq_nx s1) ?_
          refine Eq.trans (seq_nx (ρ' := R4 (Sd ns (p + 1) 0 b) size (some (.val (.int z))) none) (by kernel_rfl)) ?_
          refine Eq.trans (if_ff (k := decide ((1000000000000000000 : Int) ≤ z)) (by kernel_rfl) (decide_eq_false hz)) ?_
          simp [sPut, dBin, dFun, dCons, dNil, dIxM, dC, dVar, R4, Sd, isLstM, slotM, putM, Res.bind, Res.toOut, ofO, pIx, atI, ixN, m1, m2, pAdd, pMod, fIntA]
      · have c3 : decide (((p : Int)) < ((ns.map PV.int).length : Int)) = false := by simp; omega
        have m1 : ∀ b : Int, pMul (.int b) (.int 48271) = some (.int (b * 48271)) := fun b => by simp [pMul]
        refine ⟨p, 0, (b * 48271 + 7) % 2147483647, none, by omega, ?_⟩
        refine Eq.trans (if_tt (k := decide ((0:Int) = 0)) (by kernel_rfl) rfl) ?_
        refine Eq.trans (if_ff (k := decide (((p : Int)) < ((ns.map PV.int).length : Int))) (by kernel_rfl) c3) ?_
        simp [sPut, dBin, dFun, dCons, dNil, dIxM, dC, dVar, R4, Sd, isLstM, slotM, putM, Res.bind, Res.toOut, ofO, pIx, atI, ixN, m1, pAdd, pMod, fIntA]
    · refine ⟨p, a, b, none, ha, ?_⟩
      have h2 : (a == 0) = false := by simpa using h0
      exact Eq.trans (if_ff (k := (a == 0)) (by kernel_rfl) h2) rfl
  obtain ⟨p', a', b', x', ha', h1⟩ := h1
  have h2 : ∃ r c' y', IsSd ns c' ∧ 0 ≤ r ∧ r < size ∧ (sSeq (sIf (dAsB (dBin pGt (dIxM 0 (dC (.int 2))) (dC (.int 0)))) (sSeq (sSet 3 (dBin pMod (dFun fIntA (dCons (dIxM 0 (dC (.int 2))) dNil)) (dVar 1)))
    (sSeq (sPut 0 (dBin pDiv (dIxM 0 (dC (.int 2))) (dVar 1)) (dC (.int 2)))
    (sRet (dVar 3)))) sNil)
    (sRet (dBin pMod (dBin pMod (dFun fIntA (dCons (dBin pMul (dIxM 0 (dC (.int 3))) (dC (.int 16807))) dNil)) (dC (.int 2147483629))) (dVar 1)))) (R4 (Sd ns p' a' b') size x' none) = .rt (.int r) (R4 c' size x' y') := by
    by_cases h0 : 0 < a'
    · have l : size.natAbs.log2 < 9000 := by
        have : size.natAbs.log2 ≤ size.natAbs := Nat.log2_le_self _
        omega
      refine ⟨a' % size, Sd ns p' (a' / size) b', some (.val (.int (a' % size))), ⟨p', a' / size, b', Int.ediv_nonneg ha' (by omega), rfl⟩, Int.emod_nonneg _ (by omega), Int.emod_lt_of_pos _ hs, ?_⟩
      refine seq_rt (Eq.trans (if_tt (k := decide (0 < a')) (by kernel_rfl) (decide_eq_true h0)) ?_)
      simp [sSeq, sSet, sRet, sPut, dBin, dFun, dCons, dNil, dIxM, dC, dVar, R4, Sd, isLstM, slotM, putM, Res.bind, Res.toOut, Out.thn, ofO, pIx, atI, ixN, pMod, pDiv, fIntA, hs, l]
    · have m1 : ∀ b : Int, pMul (.int b) (.int 16807) = some (.int (b * 16807)) := fun b => by simp [pMul]
      refine ⟨b' * 16807 % 2147483629 % size, Sd ns p' a' b', none, ⟨p', a', b', ha', rfl⟩, Int.emod_nonneg _ (by omega), Int.emod_lt_of_pos _ hs, ?_⟩
      refine Eq.trans (seq_nx (Eq.trans (if_ff (k := decide (0 < a')) (by kernel_rfl) (decide_eq_false h0)) rfl)) ?_
      simp [sSeq, sSet, sRet, sPut, dBin, dFun, dCons, dNil, dIxM, dC, dVar, R4, Sd, isLstM, slotM, putM, Res.bind, Res.toOut, Out.thn, ofO, pIx, atI, ixN, pMod, pDiv, fIntA, hs, m1]
  obtain ⟨r, c', y', i', r0, r1, h2⟩ := h2
  refine ⟨r, c', ?_, i', r0, r1⟩
  have h3 : d_l_draw E (R4 (Sd ns p a b) size none none) = .rt (.int r) (R4 c' size x' y') := by
    unfold d_l_draw
    exact Eq.trans (seq_nx h1) h2
  unfold runI
  rw [show (some (SV.inp (Sd ns p a b)) :: [PV.int size].map (fun p => some (SV.val p)) ++ List.replicate (4 - ([PV.int size].length + 1)) none) = R4 (Sd ns p a b) size none none from rfl]
  rw [h3]
  rfl
theorem pick_in {l : List PV} {k : Int} (h1 : 0 ≤ k) (h2 : k < l.length) : ∃ p ∈ l, atI l k = some p := by
  obtain ⟨j, rfl⟩ : ∃ j : Nat, k = j := ⟨k.toNat, by omega⟩
  have hj : j < l.length := by omega
  exact ⟨l[j], List.getElem_mem hj, by rw [at_nat]; simp [hj]⟩
end Pl

set_option maxHeartbeats 4000000
/-! S10a: what the finitely many texts come to. -/
namespace Pl
open PySem PySem.Spec PyProof.Rows L2
def lns : List Str := ["let spot = border 1", "red spot", "blue not(spot)", "let rest = or(spot, rows 2 0)", "gold rest"]
def oddS : List Str := ([("" : Str), "rows", "rows 0", "rows 0 1 2", "rows 0 7", "rows 10 1", "rows 00 1", "rows -0 1", "rows -1 1"] : List Str) ++ (["Rows 0 1", "rows  0 1", " all", "all ", "all()", "not()", "not(all", "not(all))", "not all"] : List Str) ++ ([
  "and(all, all, all)", "and(all,all)", "and(all)", "move(1, all)", "move(1 2 3, all)"] : List Str) ++ (["move(7 0, all)", "move(1 1)", "(all)", "move(1 1 , all)", "not (all)", "turn(dot)", "high"] : List Str) ++ (["wide 3 3", "border x", ((repS 8 "not(" ++ ("all" : Str) ++ repS 8 ")") : Str),
  "and(all, )", "and(, all)", "or(all), all"] : List Str) ++ (["not(all)(all)", "move(+1 0, all)", "all\nall", "rows 0 one"] : List Str)
def fixS : List Str := ["", "red", "red ", "Red all", "let", "let all = none", "let let = all", "red dot", "let Spot = all", "let spot =", "let sevensigns = all", "red  all", " red all", "let move = all"]
def someS (s : Str) : List Str := ["", "red", "red ", "red " ++ s, "Red all", "let", "let all = none", "let let = all", "red dot", "let Spot = all", "let spot =", "let spot = " ++ s, "let sevensigns = all", "red  all", " red all", "let move = all"]
def bd : PV := .tup [.str "border", .int 1]
def orr : PV := .tup [.str "or", bd, .tup [.str "rows", .int 2, .int 0]]
def nks : Nat → List PV
  | 0 => []
  | 1 => [.str "spot"]
  | _ => [.str "spot", .str "rest"]
def nvs : Nat → List PV
  | 0 => []
  | 1 => [bd]
  | _ => [bd, orr]
def isBadB (s : Str) : Bool := (match (env 60).p_l_bad [.str s] with
  | .ok (.bl true) => true
  | _ => false) && decide (s.length ≤ 60)
theorem odd_ok : oddS.all isBadB = true := by kernel_rfl
def isNm (w : PV) : Bool := match (env 58).p_is_name [w] with
  | .ok (.bl false) => true
  | _ => false
def wrOk (bad : Str) (w r : PV) : Bool := noD w && (noD r && (isN w || (isN r || (Txt.startswith bad "let " && (inStr " = " bad && isNm w)))))
def badH (bad : Str) (n : Nat) : Bool := match (env 58).p_head_and_region [.str bad, .dks (nks n) (nvs n)] with
  | .ok (.tup [w, r]) => wrOk bad w r
  | _ => false
def badAt (bad : Str) : Bool := decide (bad.length ≤ 80) && (inStr "\n" bad || (badH bad 0 && (badH bad 1 && badH bad 2)))
theorem fix_ok : fixS.all badAt = true := by kernel_rfl
theorem red_ok : oddS.all (fun s => badAt ("red " ++ s)) = true := by kernel_rfl
theorem let_ok : oddS.all (fun s => badAt ("let spot = " ++ s)) = true := by kernel_rfl
theorem good_ok : (env 60).p_l_bad [.str "and(all, not(move(-1 2, rows 0 3)))"] = .ok (.bl false) := by kernel_rfl
theorem line_good : (env 60).p_l_line [.str "let spot = border 1\nred spot\nblue not(spot)\nlet rest = or(spot, rows 2 0)\ngold rest"] = .ok .non := by kernel_rfl
theorem line_none : (env 60).p_l_line [.str ""] = .ok .non := by kernel_rfl
theorem line_six : (env 60).p_l_line [.str "red all\nred all\nred all\nred all\nred all\nred all\nx all"] = .ok (.int 7) := by kernel_rfl
theorem line_seven : (env 60).p_l_line [.str "red all\nred all\nred all\nred all\nred all\nred all\nred all\nx all"] = .ok (.int 7) := by kernel_rfl
end Pl

set_option maxHeartbeats 4000000
/-! S10b: the line that is told. -/
namespace Pl
open PySem PySem.Spec PyProof.Rows L2
theorem wr_bad (E : Env) (nm : PV → Bool) (hE : ∀ w, nm w = true → E.p_is_name [w] = .ok (.bl false)) (bad : Str) (ks vs ps : List PV) (k : Nat) (text : PV) (a5 a6 a7 : Option SV) (w r : PV) (hh : E.p_head_and_region [.str bad, .dks ks vs] = .ok (.tup [w, r])) (hn : noD w = true) (hn2 : noD r = true)
    (h : (isN w || (isN r || (Txt.startswith bad "let " && (inStr " = " bad && nm w)))) = true) : ∃ ρ, b_read_picture_0 E [some (.val text), some (.own (.dks ks vs)), some (.own (.lst ps)), some (.val (.int k)), some (.val (.str bad)), a5, a6, a7] = .exc 7 [.int (k + 1)] ρ := by
  have n3 : noD (.tup [w, r]) = true := by
    show (noD w && (noD r && true)) = true
    rw [hn, hn2]
    rfl
  cases h1 : isN w with
  | true => cases h4 : Txt.startswith bad "let " <;> simp [b_read_picture_0, hh, n3, h1, h4]
  | false =>
    rw [h1] at h
    cases h2 : isN r with
    | true => cases h4 : Txt.startswith bad "let " <;> simp [b_read_picture_0, hh, n3, h1, h2, h4]
    | false =>
      rw [h2] at h
      cases h3 : Txt.startswith bad "let " with
      | false => rw [h3] at h; cases h
      | true =>
        rw [h3] at h
        cases h4 : inStr " = " bad with
        | false => rw [h4] at h; cases h
        | true =>
          rw [h4] at h
          have h5 := hE w h
          simp [b_read_picture_0, hh, n3, h1, h2, h3, h4, h5]
theorem nm_ok (w : PV) (h : isNm w = true) : (env 58).p_is_name [w] = .ok (.bl false) := by
  unfold isNm at h
  split at h
  · assumption
  · cases h
/-- the paints told behind a lines -/
def pts : Nat → List PV
  | 0 => []
  | 1 => []
  | 2 => [.tup [.str "red", bd]]
  | 3 => [.tup [.str "red", bd], .tup [.str "blue", .tup [.str "not", bd]]]
  | 4 => [.tup [.str "red", bd], .tup [.str "blue", .tup [.str "not", bd]]]
  | _ => [.tup [.str "red", bd], .tup [.str "blue", .tup [.str "not", bd]], .tup [.str "gold", orr]]
def nst : Nat → Nat
  | 0 => 0
  | 1 => 1
  | 2 => 1
  | 3 => 1
  | _ => 2
def stA (text : PV) (a : Nat) (a3 a4 a5 a6 a7 : Option SV) : Rho := [some (.val text), some (.own (.dks (nks (nst a)) (nvs (nst a)))), some (.own (.lst (pts a))), a3, a4, a5, a6, a7]
abbrev fl (ps : List PV) (ρ : Rho) : Out := forL (.tup [3, 4]) (b_read_picture_0 (env 58)) ps ρ
abbrev sv (p : PV) : Option SV := some (.val p)
theorem pre0 (text : PV) : fl (enumL 0 ((lns.take 0).map .str)) (stA text 0 none none none none none) = .nx (stA text 0 none none none none none) := rfl
theorem pre1 (text : PV) : fl (enumL 0 ((lns.take 1).map .str)) (stA text 0 none none none none none) = .nx (stA text 1 (sv (.int 0)) (sv (.str "let spot = border 1")) (sv (.str "spot")) (sv bd) (sv (.bl true))) := by kernel_rfl
theorem pre2 (text : PV) : fl (enumL 0 ((lns.take 2).map .str)) (stA text 0 none none none none none) = .nx (stA text 2 (sv (.int 1)) (sv (.str "red spot")) (sv (.str "red")) (sv bd) (sv (.bl false))) := by kernel_rfl
theorem pre3 (text : PV) : fl (enumL 0 ((lns.take 3).map .str)) (stA text 0 none none none none none) = .nx (stA text 3 (sv (.int 2)) (sv (.str "blue not(spot)")) (sv (.str "blue")) (sv (.tup [.str "not", bd])) (sv (.bl false))) := by kernel_rfl
theorem pre4 (text : PV) : fl (enumL 0 ((lns.take 4).map .str)) (stA text 0 none none none none none) = .nx (stA text 4 (sv (.int 3)) (sv (.str "let rest = or(spot, rows 2 0)")) (sv (.str "rest")) (sv orr) (sv (.bl true))) := by kernel_rfl
theorem pre5 (text : PV) : fl (enumL 0 ((lns.take 5).map .str)) (stA text 0 none none none none none) = .nx (stA text 5 (sv (.int 4)) (sv (.str "gold rest")) (sv (.str "gold")) (sv orr) (sv (.bl false))) := by kernel_rfl
theorem pre (text : PV) (a : Nat) (ha : a ≤ 5) : ∃ a3 a4 a5 a6 a7, fl (enumL 0 ((lns.take a).map .str)) (stA text 0 none none none none none) = .nx (stA text a a3 a4 a5 a6 a7) := by
  have : a = 0 ∨ a = 1 ∨ a = 2 ∨ a = 3 ∨ a = 4 ∨ a = 5 := by omega
  rcases this with rfl | rfl | rfl | rfl | rfl | rfl
  · exact ⟨_, _, _, _, _, pre0 text⟩
  · exact ⟨_, _, _, _, _, pre1 text⟩
  · exact ⟨_, _, _, _, _, pre2 text⟩
  · exact ⟨_, _, _, _, _, pre3 text⟩
  · exact ⟨_, _, _, _, _, pre4 text⟩
  · exact ⟨_, _, _, _, _, pre5 text⟩
theorem enumL_app : ∀ (ps qs : List PV) (n : Nat), enumL n (ps ++ qs) = enumL n ps ++ enumL (n + ps.length) qs
  | [], qs, n => rfl
  | p :: ps, qs, n => by
    show _ :: enumL (n + 1) (ps ++ qs) = _
    rw [enumL_app ps qs (n + 1), List.length_cons, show n + 1 + ps.length = n + (ps.length + 1) from by omega]
    rfl
theorem badH_ok {bad : Str} {n : Nat} (h : badH bad n = true) : ∃ w r, (env 58).p_head_and_region [.str bad, .dks (nks n) (nvs n)] = .ok (.tup [w, r]) ∧ noD w = true ∧ noD r = true ∧ (isN w || (isN r || (Txt.startswith bad "let " && (inStr " = " bad && isNm w)))) = true := by
  unfold badH at h
  split at h
  · rename_i w r e
    unfold wrOk at h
    simp only [Bool.and_eq_true] at h
    exact ⟨w, r, e, h.1, h.2.1, h.2.2⟩
  · cases h
theorem loop_bad (text : PV) (a : Nat) (ha : a ≤ 5) (bad : Str) (rest : List PV) (h : badH bad (nst a) = true) : ∃ ρ, fl (enumL 0 ((lns.take a).map .str ++ .str bad :: rest)) (stA text 0 none none none none none) = .exc 7 [.int (a + 1)] ρ := by
  obtain ⟨a3, a4, a5, a6, a7, h1⟩ := pre text a ha
  obtain ⟨w, r, h2, h3, h4, h5⟩ := badH_ok h
  rw [enumL_app]
  show ∃ ρ, forL _ _ _ _ = _
  rw [forL_append h1]
  have hl : ((lns.take a).map PV.str).length = a := by
    rw [List.length_map, List.length_take]
    have : lns.length = 5 := rfl
    omega
  rw [hl, Nat.zero_add]
  obtain ⟨ρ, h6⟩ := wr_bad (env 58) isNm nm_ok bad (nks (nst a)) (nvs (nst a)) (pts a) a text a5 a6 a7 w r h2 h3 h4 h5
  exact ⟨ρ, forL_exc (ρ1 := [some (.val text), some (.own (.dks (nks (nst a)) (nvs (nst a)))), some (.own (.lst (pts a))), some (.val (.int a)), some (.val (.str bad)), a5, a6, a7]) rfl h6⟩
/-! ### lengths of what is joined -/
theorem joinL_len (S : List Nat) : ∀ ps : List (List Nat), ps ≠ [] → (TL.joinL S ps).length + S.length = (ps.map List.length).sum + ps.length * S.length
  | [], h => absurd rfl h
  | [p], _ => by simp [TL.joinL]
  | p :: q :: r, _ => by
    have ih := joinL_len S (q :: r) (by simp)
    have e : TL.joinL S (p :: q :: r) = p ++ (S ++ TL.joinL S (q :: r)) := rfl
    rw [e]
    simp only [List.length_append, List.map_cons, List.sum_cons, List.length_cons, Nat.add_mul] at ih ⊢
    omega
theorem join_len (y : Str) (ps : List Str) (h : ps ≠ []) : (Txt.join y ps).length + y.length = (ps.map (·.length)).sum + ps.length * y.length := by
  have e := joinL_len (TL.tl y) (ps.map TL.tl) (by simpa using h)
  rw [← TL.tl_join, ← TL.len_tl, ← TL.len_tl, List.map_map, List.length_map] at e
  rw [TL.join_eq, e]
  congr 2
end Pl

set_option maxHeartbeats 4000000
/-! S10c: the law. -/
namespace Pl
open PySem PySem.Spec PyProof.Rows L2
def prts (a : Nat) (bad : Str) : List Str := lns.take a ++ bad :: lns.drop a
theorem no10 {bad : Str} (h : inStr "\n" bad = false) : 10 ∉ TL.tl bad := by
  have e := PySem.StrLaws.found_one bad 10
  have e2 : (⟨#[10]⟩ : Str) = "\n" := by kernel_rfl
  rw [e2] at e
  have e3 : (!(Builtin.Str.occurrences bad "\n" 0 bad.length 1).isEmpty) = false := h
  rw [e3] at e
  first | exact of_decide_eq_false e.symm | exact of_decide_eq_false e
theorem lns10 : ∀ p ∈ lns, 10 ∉ TL.tl p := by
  have : lns.all (fun p => !(TL.tl p).contains 10) = true := by kernel_rfl
  intro p hp hm
  have h := List.all_eq_true.mp this p hp
  rw [List.contains_iff_mem.mpr hm] at h
  cases h
theorem split_prts (a : Nat) {bad : Str} (h : inStr "\n" bad = false) : Txt.split (Txt.join "\n" (prts a bad)) "\n" = prts a bad := by
  refine TL.split_join (parts := prts a bad) (s := 10) (S := []) (by kernel_rfl) (by kernel_rfl) (by simp [prts]) fun p hp => ?_
  unfold prts at hp
  rcases List.mem_append.mp hp with hp | hp
  · exact lns10 p (List.mem_of_mem_take hp)
  · rcases List.mem_cons.mp hp with rfl | hp
    · exact no10 h
    · exact lns10 p (List.mem_of_mem_drop hp)
theorem sum_prts (a : Nat) (bad : Str) : ((prts a bad).map (·.length)).sum = (lns.map (·.length)).sum + bad.length := by
  unfold prts
  have e := List.take_append_drop a lns
  have e2 : ((lns.take a).map (·.length)).sum + ((lns.drop a).map (·.length)).sum = (lns.map (·.length)).sum := by
    rw [← List.sum_append, ← List.map_append, e]
  simp only [List.map_append, List.map_cons, List.sum_append, List.sum_cons]
  omega
theorem len_prts (a : Nat) (bad : Str) : (prts a bad).length = 6 := by
  unfold prts
  have h : lns.length = 5 := rfl
  simp only [List.length_append, List.length_cons, List.length_take, List.length_drop]
  omega
theorem lns_sum : (lns.map (·.length)).sum = 79 := by kernel_rfl
theorem line_bad (a : Nat) (ha : a ≤ 5) (bad : Str) (hb : badAt bad = true) (hn : inStr "\n" bad = false) : (env 60).p_l_line [.str (Txt.join "\n" (prts a bad))] = .ok (.int (a + 1)) := by
  have hb2 : bad.length ≤ 80 ∧ badH bad (nst a) = true := by
    unfold badAt at hb
    rw [hn] at hb
    simp only [Bool.and_eq_true, decide_eq_true_eq, Bool.false_or] at hb
    obtain ⟨h1, h2, h3, h4⟩ := hb
    refine ⟨h1, ?_⟩
    have : nst a = 0 ∨ nst a = 1 ∨ nst a = 2 := by unfold nst; split <;> simp
    rcases this with e | e | e <;> rw [e] <;> assumption
  have hl := join_len "\n" (prts a bad) (by simp [prts])
  rw [sum_prts, len_prts, lns_sum] at hl
  have h1 : (("\n" : Str)).length = 1 := rfl
  rw [h1] at hl
  have hs := split_prts a hn
  generalize Txt.join "\n" (prts a bad) = T at *
  obtain ⟨ρ, hlp⟩ := loop_bad (.str T) a ha bad ((lns.drop a).map .str) hb2.2
  have hp : (env 59).p_read_picture [.str T] = .exc 7 [.int (a + 1)] := by
    show runB 8 (d_read_picture (env 58)) [.str T] = _
    rw [runB_fin]
    have t1 : T.length ≤ 1000000 := by omega
    have t2 : T.length + 2 ≤ LIM := by unfold LIM; omega
    have t3 : ((T.length : Int) != 0) = true := by simp; omega
    have t4 : ((("\n" : Str)).length == 0) = false := rfl
    have e5 : enumL 0 ((prts a bad).map PV.str) = enumL 0 ((lns.take a).map .str ++ .str bad :: (lns.drop a).map .str) := by
      unfold prts
      rw [List.map_append, List.map_cons]
    have hlp2 : forL (.tup [3, 4]) (b_read_picture_0 (env 58)) (enumL 0 ((prts a bad).map PV.str)) [some (.val (.str T)), some (.own (.dks [] [])), some (.own (.lst [])), none, none, none, none, none] = .exc 7 [.int (a + 1)] ρ := by
      rw [e5]
      exact hlp
    generalize env 58 = E at *
    simp [d_read_picture, st0, t1, t2, t3, t4, hs, hlp2]
  show runB 3 (d_l_line (env 59)) [.str T] = _
  rw [runB_fin]
  generalize env 59 = E at *
  simp [d_l_line, st0, hp, SUB]
end Pl

set_option maxHeartbeats 4000000
/-! S10d: the law. -/
namespace Pl
open PySem PySem.Spec PyProof.Rows L2
theorem allStr_map : ∀ l : List Str, allStr (l.map .str) = some l
  | [] => rfl
  | x :: l => by
    show (allStr (l.map .str)).map (x :: ·) = _
    rw [allStr_map l]
    rfl
theorem pJoin_l (y : Str) (l : List Str) (h : (l.map (·.length)).sum + l.length * y.length ≤ LIM) : pJoin (.str y) (.lst (l.map .str)) = some (.str (Txt.join y l)) := by
  unfold pJoin
  simp only [allStr_map]
  rw [if_pos h]
theorem strs_in {l : List Str} {k : Int} (h1 : 0 ≤ k) (h2 : k < l.length) : ∃ s ∈ l, atI (l.map PV.str) k = some (.str s) := by
  obtain ⟨j, rfl⟩ : ∃ j : Nat, k = j := ⟨k.toNat, by omega⟩
  have hj : j < l.length := by omega
  exact ⟨l[j], List.getElem_mem hj, by rw [at_nat]; simp [hj]⟩
theorem oddS_len : oddS.length = 40 := by kernel_rfl
theorem odd_at {s : Str} (h : s ∈ oddS) : (env 60).p_l_bad [.str s] = .ok (.bl true) ∧ s.length ≤ 60 := by
  have := List.all_eq_true.mp odd_ok s h
  unfold isBadB at this
  obtain ⟨h1, h2⟩ := Bool.and_eq_true_iff.mp this
  refine ⟨?_, of_decide_eq_true h2⟩
  split at h1
  · assumption
  · cases h1
theorem some_ok {s bad : Str} (h : s ∈ oddS) (hb : bad ∈ someS s) : badAt bad = true := by
  have h1 : ∀ b ∈ fixS, badAt b = true := fun b m => List.all_eq_true.mp fix_ok b m
  have h2 := List.all_eq_true.mp red_ok s h
  have h3 := List.all_eq_true.mp let_ok s h
  unfold someS at hb
  simp only [List.mem_cons, List.mem_nil_iff, or_false] at hb
  rcases hb with e | e | e | e | e | e | e | e | e | e | e | e | e | e | e | e
  all_goals subst e
  all_goals first | exact h2 | exact h3 | exact h1 _ (by simp [fixS])
theorem cutA (a : Nat) (ha : a ≤ 5) : pSl (.lst (lns.map .str)) none (some (a : Int)) = some (.lst ((lns.take a).map .str)) ∧ pSl (.lst (lns.map .str)) (some (a : Int)) none = some (.lst ((lns.drop a).map .str)) := by
  have : a = 0 ∨ a = 1 ∨ a = 2 ∨ a = 3 ∨ a = 4 ∨ a = 5 := by omega
  rcases this with rfl | rfl | rfl | rfl | rfl | rfl <;> exact ⟨by kernel_rfl, by kernel_rfl⟩
theorem full_ok : pJoin (.str "\n") (.lst (lns.map .str)) = some (.str "let spot = border 1\nred spot\nblue not(spot)\nlet rest = or(spot, rows 2 0)\ngold rest") := by kernel_rfl
theorem law_ok (ns : List Int) : (env 61).p_law_k10 [.scr ns] = .ok (.bl true) := by
  have hb : (env 60).o_l_begin [.scr ns] = some (Sd ns 0 0 7) := by kernel_rfl
  have dr : ∀ c, IsSd ns c → ∀ size : Int, 0 < size → size < 1000 → ∃ r c', (env 60).i_l_draw c [.int size] = .ok (.int r) c' ∧ IsSd ns c' ∧ 0 ≤ r ∧ r < size := fun c hc size h1 h2 => draw_ok ns hc 59 h1 h2
  obtain ⟨t, c1, h1, i1, l1, u1⟩ := dr (Sd ns 0 0 7) ⟨0, 0, 7, by omega, rfl⟩ 40 (by omega) (by omega)
  obtain ⟨a0, c2, h2, i2, l2, u2⟩ := dr c1 i1 6 (by omega) (by omega)
  obtain ⟨a, rfl⟩ : ∃ a : Nat, a0 = (a : Int) := ⟨a0.toNat, by omega⟩
  obtain ⟨bi, c3, h3, i3, l3, u3⟩ := dr c2 i2 16 (by omega) (by omega)
  obtain ⟨k, c4, h4, i4, l4, u4⟩ := dr c3 i3 2 (by omega) (by omega)
  obtain ⟨s, hs, ht⟩ := strs_in (l := oddS) l1 (by rw [oddS_len]; exact u1)
  obtain ⟨bad, hbm, hbt⟩ := strs_in (l := someS s) l3 (by exact u3)
  obtain ⟨w1, w2⟩ := odd_at hs
  have w3 := some_ok hs hbm
  have w4 := line_bad a (by omega) bad w3
  have w5 := good_ok
  have w6 := line_good
  have w7 := line_none
  have w8 := line_six
  have w9 := line_seven
  obtain ⟨ct1, ct2⟩ := cutA a (by omega)
  have hbl : bad.length ≤ 80 := by
    unfold badAt at w3
    exact of_decide_eq_true (Bool.and_eq_true_iff.mp w3).1
  have j1 := pJoin_l "\n" (prts a bad) (by
    rw [sum_prts, len_prts, lns_sum, show (("\n" : Str)).length = 1 from rfl]
    unfold LIM
    omega)
  show runB 9 (d_law_k10 (env 60)) _ = _
  rw [runB_fin]
  generalize env 60 = E at *
  suffices h : ∃ ρ, d_law_k10 E (st0 9 [.scr ns]) = .rt (.bl true) ρ by
    obtain ⟨ρ, h⟩ := h
    rw [h]
    rfl
  have z1 : ∀ (d t : DS) (a b : Rho), d a = .nx b → (∃ ρ, t b = .rt (.bl true) ρ) → ∃ ρ, sSeq d t a = .rt (.bl true) ρ := fun d t a b h ⟨ρ, g⟩ => ⟨ρ, Eq.trans (seq_nx h) g⟩
  refine z1 _ _ _ [some (.val (.scr ns)), some (.own (Sd ns 0 0 7)), none, none, none, none, none, none, none] (by simp [st0, s0_law_k10, hb]) ?_
  refine z1 _ _ _ _ rfl ?_
  refine z1 _ _ _ _ rfl ?_
  refine z1 _ _ _ _ rfl ?_
  refine z1 _ _ _ _ rfl ?_
  refine z1 _ _ _ _ rfl ?_
  refine z1 _ _ _ [some (.val (.scr ns)), some (.own (Sd ns 0 0 7)), some (.val (.lst (oddS.map .str))), none, none, none, none, none, none] (by kernel_rfl) ?_
  refine z1 _ _ _ [some (.val (.scr ns)), some (.own c1), some (.val (.lst (oddS.map .str))), some (.val (.str s)), none, none, none, none, none] (by simp [s7_law_k10, oddS_len, h1, ht]) ?_
  refine z1 _ _ _ [some (.val (.scr ns)), some (.own c1), some (.val (.lst (oddS.map .str))), some (.val (.str s)), none, none, none, none, none] (by simp [s8_law_k10, w1, w5]) ?_
  refine z1 _ _ _ _ rfl ?_
  refine z1 _ _ _ [some (.val (.scr ns)), some (.own c1), some (.val (.lst (oddS.map .str))), some (.val (.str s)), some (.val (.lst (lns.map .str))), none, none, none, none] (by kernel_rfl) ?_
  refine z1 _ _ _ [some (.val (.scr ns)), some (.own c1), some (.val (.lst (oddS.map .str))), some (.val (.str s)), some (.val (.lst (lns.map .str))), none, none, none, none] (by simp [s11_law_k10, full_ok, w6, w7]) ?_
  refine z1 _ _ _ [some (.val (.scr ns)), some (.own c2), some (.val (.lst (oddS.map .str))), some (.val (.str s)), some (.val (.lst (lns.map .str))), some (.val (.int a)), none, none, none] (by simp [s12_law_k10, h2]) ?_
  have q1 : (("red " : Str)).length + s.length ≤ LIM := by
    rw [show (("red " : Str)).length = 4 from rfl]
    unfold LIM
    omega
  have q2 : (("let spot = " : Str)).length + s.length ≤ 16000000 := by
    rw [show (("let spot = " : Str)).length = 11 from rfl]
    omega
  refine z1 _ _ _ [some (.val (.scr ns)), some (.own c2), some (.val (.lst (oddS.map .str))), some (.val (.str s)), some (.val (.lst (lns.map .str))), some (.val (.int a)), some (.val (.lst ((someS s).take 9 |>.map .str))), none, none] (by simp [s13_law_k10, q1, someS]) ?_
  refine z1 _ _ _ [some (.val (.scr ns)), some (.own c2), some (.val (.lst (oddS.map .str))), some (.val (.str s)), some (.val (.lst (lns.map .str))), some (.val (.int a)), some (.val (.lst ((someS s).take 14 |>.map .str))), none, none] (by simp [s14_law_k10, q2, someS, LIM]) ?_
  refine z1 _ _ _ [some (.val (.scr ns)), some (.own c2), some (.val (.lst (oddS.map .str))), some (.val (.str s)), some (.val (.lst (lns.map .str))), some (.val (.int a)), some (.val (.lst ((someS s).map .str))), none, none] (by simp [s15_law_k10, someS, LIM]) ?_
  have ln : (someS s).length = 16 := rfl
  refine z1 _ _ _ [some (.val (.scr ns)), some (.own c3), some (.val (.lst (oddS.map .str))), some (.val (.str s)), some (.val (.lst (lns.map .str))), some (.val (.int a)), some (.val (.lst ((someS s).map .str))), some (.val (.str bad)), none] (by simp [s16_law_k10, ln, h3, hbt]) ?_
  have lp := len_prts a bad
  have lq : (lns.take a).length ≤ 5 := by
    rw [List.length_take]
    have : lns.length = 5 := rfl
    omega
  refine z1 _ _ _ [some (.val (.scr ns)), some (.own c3), some (.val (.lst (oddS.map .str))), some (.val (.str s)), some (.val (.lst (lns.map .str))), some (.val (.int a)), some (.val (.lst ((someS s).map .str))), some (.val (.str bad)), some (.val (.lst ((prts a bad).map .str)))] ?_ ?_
  · have e1 : ((lns.take a).map PV.str).length + 1 ≤ LIM := by rw [List.length_map]; unfold LIM; omega
    have e2 : ((lns.take a).map PV.str ++ [PV.str bad]).length + ((lns.drop a).map PV.str).length ≤ LIM := by
      simp only [List.length_append, List.length_map, List.length_drop, List.length_cons, List.length_nil]
      have : lns.length = 5 := rfl
      unfold LIM
      omega
    have e3 : ((lns.take a).map PV.str ++ [PV.str bad]) ++ (lns.drop a).map PV.str = (prts a bad).map .str := by
      unfold prts
      rw [List.map_append, List.map_cons, List.append_assoc]
      rfl
    have e4 : pAdd (.lst ((lns.take a).map .str)) (.lst [.str bad]) = some (.lst ((lns.take a).map PV.str ++ [PV.str bad])) := if_pos e1
    have e5 : pAdd (.lst ((lns.take a).map PV.str ++ [PV.str bad])) (.lst ((lns.drop a).map .str)) = some (.lst ((prts a bad).map .str)) := by
      rw [← e3]
      exact if_pos e2
    simp [-pAdd_l, -List.map_take, -List.map_drop, s17_law_k10, ct1, ct2, e4, e5]
  refine z1 _ _ _ [some (.val (.scr ns)), some (.own c3), some (.val (.lst (oddS.map .str))), some (.val (.str s)), some (.val (.lst (lns.map .str))), some (.val (.int a)), some (.val (.lst ((someS s).map .str))), some (.val (.str bad)), some (.val (.lst ((prts a bad).map .str)))] ?_ ?_
  · cases c : inStr "\n" bad with
    | true => simp [s18_law_k10, c]
    | false => simp [s18_law_k10, c, j1, w4 c]
  have kk : k = 0 ∨ k = 1 := by omega
  have r6 : pRep (.lst [.str "red all"]) (.int 6) = some (.lst [.str "red all", .str "red all", .str "red all", .str "red all", .str "red all", .str "red all"]) := by kernel_rfl
  have r7 : pRep (.lst [.str "red all"]) (.int 7) = some (.lst [.str "red all", .str "red all", .str "red all", .str "red all", .str "red all", .str "red all", .str "red all"]) := by kernel_rfl
  have m6 : pJoin (.str "\n") (.lst [.str "red all", .str "red all", .str "red all", .str "red all", .str "red all", .str "red all", .str "x all"]) = some (.str "red all\nred all\nred all\nred all\nred all\nred all\nx all") := by kernel_rfl
  have m7 : pJoin (.str "\n") (.lst [.str "red all", .str "red all", .str "red all", .str "red all", .str "red all", .str "red all", .str "red all", .str "x all"]) = some (.str "red all\nred all\nred all\nred all\nred all\nred all\nred all\nx all") := by kernel_rfl
  rcases kk with rfl | rfl
  · exact ⟨_, by simp [s19_law_k10, h4, r6, m6, w8, LIM]; rfl⟩
  · exact ⟨_, by simp [s19_law_k10, h4, r7, m7, w9, LIM]; rfl⟩
end Pl

open PySem in
theorem PySem.Challenge.cw_anysheet_k10_texts_refused_holds : PySem.Challenge.rw_anysheet_k10_texts_refused.Holds := by
  exact Pl.end_of 60 ⟨rfl, by decide, by decide⟩ fun ns _ => Pl.law_ok ns
