import PyProof.Rows.All
import Wide.All
import OpenK.AllK
import Wide.FinOn
import KE.KDictKeyed
import KE.KDictWalk
import HandS.ForMost
import HandS.Exc
import HandS.ExcOwn
import HandS.WordsExc
import HandS.Defaults
import HandS.CallSlots
import HandS.Flow
import HandS.Wide
import HandS.TupAny
import HandS.Deep
import HandS.IsInst
import HandS.More
import HandS.Text
import HandS.Strs
import HandS.HeadHook4
import HandS.TryMany
import HandS.Zip
import PySem.Challenge.RW_anysheet_k01_regions_on_sheets
import HandS.Head2
import HandS.HeadWalk
set_option Elab.async false
set_option linter.all false
set_option maxRecDepth 100000
set_option maxHeartbeats 4000000
/-! P0: plain values, what bears them in the heap, plain states, what a body's meaning promises. -/
namespace Pl
open PySem PySem.Spec PyProof.Rows L2

/-- a plain value -/
inductive PV where
  | non | bl (b : Bool) | int (i : Int) | str (x : Str)
  | tup (xs : List PV) | lst (xs : List PV) | dct (ks vs : List PV) | ins (c : Nat) (xs : List PV)
  /-- the script as it was handed in -/
  | scr (ns : List Int)

/-- what is told of the text's own classes: where each stands, its attributes in order -/
structure Fx where
  K : PySem.W.Frag
  w : World
  cls : Nat → Addr
  fld : Nat → List Str

def keyPV : Key → PV
  | .inl i => .int i
  | .inr x => .str x

/-- a dict whose keys are tuples of any depth, told by its entries -/
def dHO (w : World) (a : Addr) (xs : List (NestedKey × Addr × Value)) : HO :=
  .ext fun h => ∃ o es ep, h.get? a = some o ∧ o.ExactDict ∧ o.data = .dict es ep ∧ es.toList = xs.map fun x => (⟨x.1.hash w, .ref x.2.1, x.2.2⟩ : DictEntry)

/-- a key up to == -/
def nkey : PV → NestedKey
  | .bl b => .num (if b then 1 else 0)
  | .int i => .num i
  | .str x => .text x
  | .tup xs => .tup (nkeys xs)
  | _ => .none
where nkeys : List PV → List NestedKey
  | [] => []
  | x :: xs => nkey x :: nkeys xs

mutual
/-- the value v bears the plain value in what stands still -/
inductive Rep (F : Fx) (G : Hp) : PV → V → Prop
  | non : Rep F G .non .non
  | bl (b : Bool) : Rep F G (.bl b) (.bl b)
  | int (i : Int) : Rep F G (.int i) (.int i)
  | str (x : Str) : Rep F G (.str x) (.str x)
  | tup {ps : List PV} {a : Addr} {vs : List V} : SqT F.K G a vs → Reps F G ps vs → Rep F G (.tup ps) (.ref a)
  | lst {ps : List PV} {a : Addr} {vs : List V} : G a = some (.lst vs) → Reps F G ps vs → Rep F G (.lst ps) (.ref a)
  | scr {ns : List Int} {a : Addr} : SqL F.K G a (ns.map V.int) → Rep F G (.scr ns) (.ref a)
  | dK {ks vs : List PV} {a : Addr} {kvs : List (Key × V)} : G a = some (.dK kvs) → ks = kvs.map (fun q => keyPV q.1) → Reps F G vs (kvs.map (·.2)) → Rep F G (.dct ks vs) (.ref a)
  | dT {ks vs : List PV} {a : Addr} {xs : List (NestedKey × Addr × Value)} {us : List V} : G a = some (dHO F.w a xs) → Reps F G ks (xs.map fun x => V.ref x.2.1) → ks.map nkey = xs.map (·.1) →
      Vals us (xs.map (·.2.2)) → Reps F G vs us → Rep F G (.dct ks vs) (.ref a)
  | ins {c : Nat} {ps : List PV} {a dx : Addr} {fs : List (Str × V)} : G a = some (.ins (F.cls c) dx fs) → fs.map (·.1) = F.fld c → Reps F G ps (fs.map (·.2)) → Rep F G (.ins c ps) (.ref a)
inductive Reps (F : Fx) (G : Hp) : List PV → List V → Prop
  | nil : Reps F G [] []
  | cons {p : PV} {v : V} {ps : List PV} {vs : List V} : Rep F G p v → Reps F G ps vs → Reps F G (p :: ps) (v :: vs)
end

theorem SqT.same {K : PySem.W.Frag} {H H' : Hp} {a : Addr} {xs : List V} (e : Same H H') (h : SqT K H a xs) : SqT K H' a xs := by
  rcases h with (h | ⟨o, h⟩) | h
  · exact .inl (.inl (e _ _ h))
  · exact .inl (.inr ⟨o, e _ _ h⟩)
  · exact .inr h

section
variable {F : Fx} {G G' : Hp}
mutual
theorem Rep.same (e : Same G G') : ∀ {p : PV} {v : V}, Rep F G p v → Rep F G' p v
  | _, _, .non => .non
  | _, _, .bl b => .bl b
  | _, _, .int i => .int i
  | _, _, .str x => .str x
  | _, _, .tup h r => .tup (SqT.same e h) (Reps.same e r)
  | _, _, .lst h r => .lst (e _ _ h) (Reps.same e r)
  | _, _, .scr h => .scr (Same.seq e h)
  | _, _, .dK h k r => .dK (e _ _ h) k (Reps.same e r)
  | _, _, .dT h k n u r => .dT (e _ _ h) (Reps.same e k) n u (Reps.same e r)
  | _, _, .ins h k r => .ins (e _ _ h) k (Reps.same e r)
theorem Reps.same (e : Same G G') : ∀ {ps : List PV} {vs : List V}, Reps F G ps vs → Reps F G' ps vs
  | _, _, .nil => .nil
  | _, _, .cons h r => .cons (Rep.same e h) (Reps.same e r)
end
theorem Reps.length : ∀ {ps : List PV} {vs : List V}, Reps F G ps vs → ps.length = vs.length
  | _, _, .nil => rfl
  | _, _, .cons _ r => congrArg (· + 1) (Reps.length r)
theorem Reps.get : ∀ {ps : List PV} {vs : List V} {i : Nat} {p : PV}, Reps F G ps vs → ps[i]? = some p → ∃ v, vs[i]? = some v ∧ Rep F G p v
  | _, _, 0, _, .cons h _, e => by
    cases e
    exact ⟨_, rfl, h⟩
  | _, _, i + 1, p, .cons _ r, e => by
    obtain ⟨v, h1, h2⟩ := Reps.get (i := i) (p := p) r (by simpa using e)
    exact ⟨v, by simpa using h1, h2⟩
theorem Reps.append : ∀ {ps qs : List PV} {vs us : List V}, Reps F G ps vs → Reps F G qs us → Reps F G (ps ++ qs) (vs ++ us)
  | _, _, _, _, .nil, s => s
  | _, _, _, _, .cons h r, s => .cons h (Reps.append r s)
theorem Reps.take : ∀ {ps : List PV} {vs : List V} (n : Nat), Reps F G ps vs → Reps F G (ps.take n) (vs.take n)
  | _, _, 0, _ => .nil
  | _, _, _ + 1, .nil => .nil
  | _, _, n + 1, .cons h r => .cons h (Reps.take n r)
theorem Reps.drop : ∀ {ps : List PV} {vs : List V} (n : Nat), Reps F G ps vs → Reps F G (ps.drop n) (vs.drop n)
  | _, _, 0, r => r
  | _, _, _ + 1, .nil => .nil
  | _, _, n + 1, .cons _ r => Reps.drop n r
theorem Reps.set {p : PV} {v : V} (h : Rep F G p v) : ∀ {ps : List PV} {vs : List V} (i : Nat), Reps F G ps vs → Reps F G (ps.set i p) (vs.set i v)
  | _, _, _, .nil => .nil
  | _, _, 0, .cons _ r => .cons h r
  | _, _, i + 1, .cons g r => .cons g (Reps.set h i r)
end

/-- what a slot holds: a value; an object of its own that nothing else names; the object that was handed in to be changed -/
inductive SV where
  | val (p : PV)
  | own (c : PV)
  | inp (c : PV)

/-- an object that is owned: what it holds stands still -/
inductive Own (F : Fx) (G H : Hp) (p : Addr) : PV → Prop
  | lst {ps : List PV} {vs : List V} : H p = some (.lst vs) → Reps F G ps vs → Own F G H p (.lst ps)
  | dK {ks vs : List PV} {kvs : List (Key × V)} : H p = some (.dK kvs) → ks = kvs.map (fun q => keyPV q.1) → Reps F G vs (kvs.map (·.2)) → Own F G H p (.dct ks vs)
  | dT {ks vs : List PV} {xs : List (NestedKey × Addr × Value)} {us : List V} : H p = some (dHO F.w p xs) → Reps F G ks (xs.map fun x => V.ref x.2.1) → ks.map nkey = xs.map (·.1) →
      Vals us (xs.map (·.2.2)) → Reps F G vs us → Own F G H p (.dct ks vs)
  | ins {c : Nat} {ps : List PV} {dx : Addr} {fs : List (Str × V)} : H p = some (.ins (F.cls c) dx fs) → fs.map (·.1) = F.fld c → Reps F G ps (fs.map (·.2)) → Own F G H p (.ins c ps)

theorem Own.same {F : Fx} {G G' H H' : Hp} {p : Addr} {c : PV} (e : Same G G') (k : ∀ o, H p = some o → H' p = some o) (h : Own F G H p c) : Own F G' H' p c := by
  cases h with
  | lst h r => exact .lst (k _ h) (r.same e)
  | dK h q r => exact .dK (k _ h) q (r.same e)
  | dT h q n u r => exact .dT (k _ h) (q.same e) n u (r.same e)
  | ins h q r => exact .ins (k _ h) q (r.same e)
theorem Own.there {F : Fx} {G H : Hp} {p : Addr} {c : PV} (h : Own F G H p c) : ∃ o, H p = some o := by
  cases h with
  | lst h r => exact ⟨_, h⟩
  | dK h q r => exact ⟨_, h⟩
  | dT h q n u r => exact ⟨_, h⟩
  | ins h q r => exact ⟨_, h⟩
/-- it is handed on: from now on it stands still -/
theorem Own.frozen {F : Fx} {G H : Hp} {p : Addr} {c : PV} {o : HO} (h : Own F G H p c) (hp : H p = some o) (e : Same G (upd G p o)) : Rep F (upd G p o) c (.ref p) := by
  cases h with
  | lst h r => rw [hp] at h; cases h; exact .lst upd_same (r.same e)
  | dK h q r => rw [hp] at h; cases h; exact .dK upd_same q (r.same e)
  | dT h q n u r =>
    rw [hp] at h
    have h' := Option.some.inj h
    refine .dT (by rw [upd_same, h']) (q.same e) n u (r.same e)
  | ins h q r => rw [hp] at h; cases h; exact .ins upd_same q (r.same e)

abbrev Rho := List (Option SV)

/-- the slots and the heap bear the plain state; Fr: what belongs to others, and stays; io: what was handed in to be changed -/
structure StOk (F : Fx) (io : Option Addr) (G Fr H : Hp) (σ : L2.St) (ρ : Rho) : Prop where
  sub : Same G H
  fsub : Same Fr H
  dis : ∀ a o, G a = some o → Fr a = none
  len : ρ.length = σ.length
  val : ∀ (i : Nat) (p : PV), ρ[i]? = some (some (SV.val p)) → ∃ v, σ[i]? = some (some v) ∧ Rep F G p v
  own : ∀ (i : Nat) (c : PV), ρ[i]? = some (some (SV.own c)) → ∃ a, σ[i]? = some (some (V.ref a)) ∧ G a = none ∧ Fr a = none ∧ Own F G H a c ∧ io ≠ some a
  sep : ∀ (i j : Nat) (c d : PV) (a : Addr), ρ[i]? = some (some (SV.own c)) → ρ[j]? = some (some (SV.own d)) → σ[i]? = some (some (V.ref a)) → σ[j]? = some (some (V.ref a)) → i = j
  iot : ∀ a, io = some a → G a = none ∧ Fr a = none ∧ ∃ o, H a = some o
  inp : ∀ (i : Nat) (c : PV), ρ[i]? = some (some (SV.inp c)) → ∃ a, io = some a ∧ σ[i]? = some (some (V.ref a)) ∧ Own F G H a c
  one : ∀ (i j : Nat) (c d : PV), ρ[i]? = some (some (SV.inp c)) → ρ[j]? = some (some (SV.inp d)) → i = j

/-- the heap grows: all stays, more may stand still -/
structure Grow (G H G' H' : Hp) : Prop where
  all : Same H H'
  gle : Same G G'
  sub : Same G' H'
  new : ∀ a o, G' a = some o → G a = none → H a = none
theorem Grow.refl {G H : Hp} (s : Same G H) : Grow G H G H := ⟨Same.refl _, Same.refl _, s, fun a o h e => by rw [h] at e; cases e⟩
theorem Grow.trans {G H G1 H1 G2 H2 : Hp} (a : Grow G H G1 H1) (b : Grow G1 H1 G2 H2) : Grow G H G2 H2 := by
  refine ⟨a.all.trans b.all, a.gle.trans b.gle, b.sub, fun c o h e => ?_⟩
  cases q : G1 c with
  | some u => exact a.new c u q e
  | none => exact a.all.free (b.new c o h q)
theorem Grow.stays0 {G H G' H' : Hp} (g : Grow G H G' H') {a : Addr} (h : G a = none) (t : ∃ o, H a = some o) : G' a = none := by
  cases q : G' a with
  | none => rfl
  | some u =>
    obtain ⟨o, ho⟩ := t
    rw [g.new a u q h] at ho
    cases ho
/-- a new object that stands still -/
theorem same_upd {H : Hp} {p : Addr} {o : HO} (n : H p = none) : Same H (upd H p o) := fun b u h => by
  rw [upd_ne (ne_of_none h n)]
  exact h
theorem Grow.new1 {G H : Hp} {p : Addr} {o : HO} (s : Same G H) (n : H p = none) : Grow G H (upd G p o) (upd H p o) := by
  refine ⟨same_upd n, same_upd (s.free n), fun b u h => ?_, fun b u h e => ?_⟩
  · by_cases q : b = p
    · subst q
      rw [upd_same] at h ⊢
      exact h
    · rw [upd_ne q] at h ⊢
      exact s _ _ h
  · by_cases q : b = p
    · subst q
      exact n
    · rw [upd_ne q, e] at h
      cases h
/-- a new object that does not stand still -/
theorem Grow.new0 {G H : Hp} {p : Addr} {o : HO} (s : Same G H) (n : H p = none) : Grow G H G (upd H p o) :=
  ⟨same_upd n, Same.refl _, s.trans (same_upd n), fun a o h e => by rw [h] at e; cases e⟩
/-- slots -/
theorem slot_set {α : Type} {l : List (Option α)} {i j : Nat} {x y : α} (h : (l.set i (some x))[j]? = some (some y)) : (i = j ∧ x = y) ∨ (i ≠ j ∧ l[j]? = some (some y)) := by
  by_cases e : i = j
  · subst e
    by_cases z : i < l.length
    · rw [List.getElem?_set_self z] at h
      exact .inl ⟨rfl, Option.some.inj (Option.some.inj h)⟩
    · rw [List.getElem?_eq_none (by rw [List.length_set]; omega)] at h
      cases h
  · rw [List.getElem?_set_ne e] at h
    exact .inr ⟨e, h⟩
theorem lt_of_slot {α : Type} {l : List (Option α)} {i : Nat} {y : α} (h : l[i]? = some (some y)) : i < l.length := by
  rcases Nat.lt_or_ge i l.length with z | z
  · exact z
  · rw [List.getElem?_eq_none z] at h
    cases h
section
variable {F : Fx} {io : Option Addr} {G Fr H G' H' : Hp} {σ : L2.St} {ρ : Rho}
theorem StOk.grow (S : StOk F io G Fr H σ ρ) (g : Grow G H G' H') : StOk F io G' Fr H' σ ρ := by
  refine ⟨g.sub, S.fsub.trans g.all, fun a o h => ?_, S.len, fun i p e => ?_, fun i c e => ?_, S.sep, fun a e => ?_, fun i c e => ?_, S.one⟩
  · cases q : G a with
    | some u => exact S.dis a u q
    | none => exact S.fsub.free (g.new a o h q)
  · obtain ⟨v, h1, h2⟩ := S.val i p e
    exact ⟨v, h1, h2.same g.gle⟩
  · obtain ⟨a, h1, h2, h3, h4, h5⟩ := S.own i c e
    exact ⟨a, h1, g.stays0 h2 h4.there, h3, h4.same g.gle fun o ho => g.all _ _ ho, h5⟩
  · obtain ⟨h1, h2, o, h3⟩ := S.iot a e
    exact ⟨g.stays0 h1 ⟨o, h3⟩, h2, o, g.all _ _ h3⟩
  · obtain ⟨a, h1, h2, h3⟩ := S.inp i c e
    exact ⟨a, h1, h2, h3.same g.gle fun o ho => g.all _ _ ho⟩
theorem slot_st {i j : Nat} {v : V} (h : i ≠ j) : (σ.set i (some v))[j]? = σ[j]? := List.getElem?_set_ne h
theorem StOk.set_val {i : Nat} {p : PV} {v : V} (S : StOk F io G Fr H σ ρ) (r : Rep F G p v) : StOk F io G Fr H (σ.set i (some v)) (ρ.set i (some (.val p))) := by
  refine ⟨S.sub, S.fsub, S.dis, by rw [List.length_set, List.length_set]; exact S.len, fun j q e => ?_, fun j c e => ?_, fun j k c d a e1 e2 e3 e4 => ?_, S.iot, fun j c e => ?_, fun j k c d e1 e2 => ?_⟩
  · rcases slot_set e with ⟨rfl, z⟩ | ⟨n, z⟩
    · injection z with z
      subst z
      have l : i < ρ.length := by simpa using lt_of_slot e
      exact ⟨v, List.getElem?_set_self (S.len ▸ l), r⟩
    · rw [slot_st n]
      exact S.val j q z
  · rcases slot_set e with ⟨rfl, z⟩ | ⟨n, z⟩
    · cases z
    · rw [slot_st n]
      exact S.own j c z
  · rcases slot_set e1 with ⟨rfl, z⟩ | ⟨n, z⟩
    · cases z
    · rcases slot_set e2 with ⟨rfl, z2⟩ | ⟨n2, z2⟩
      · cases z2
      · rw [slot_st n] at e3
        rw [slot_st n2] at e4
        exact S.sep j k c d a z z2 e3 e4
  · rcases slot_set e with ⟨rfl, z⟩ | ⟨n, z⟩
    · cases z
    · rw [slot_st n]
      exact S.inp j c z
  · rcases slot_set e1 with ⟨rfl, z⟩ | ⟨n, z⟩
    · cases z
    · rcases slot_set e2 with ⟨rfl, z2⟩ | ⟨n2, z2⟩
      · cases z2
      · exact S.one j k c d z z2
/-- a slot takes an object of its own, that stands in the heap, and that nothing names -/
theorem StOk.take_own {i : Nat} {c : PV} {a : Addr} (S : StOk F io G Fr H σ ρ) (nG : G a = none) (nF : Fr a = none) (nI : io ≠ some a) (old : ∀ (j : Nat) (d : PV), ρ[j]? = some (some (SV.own d)) → σ[j]? ≠ some (some (V.ref a)))
    (r : Own F G H a c) : StOk F io G Fr H (σ.set i (some (.ref a))) (ρ.set i (some (.own c))) := by
  refine ⟨S.sub, S.fsub, S.dis, by rw [List.length_set, List.length_set]; exact S.len, fun j q e => ?_, fun j d e => ?_, fun j l d d' b e1 e2 e3 e4 => ?_, S.iot, fun j d e => ?_, fun j k c d e1 e2 => ?_⟩
  · rcases slot_set e with ⟨rfl, z⟩ | ⟨n, z⟩
    · cases z
    · rw [slot_st n]
      exact S.val j q z
  · rcases slot_set e with ⟨rfl, z⟩ | ⟨n, z⟩
    · injection z with z
      subst z
      have l : i < ρ.length := by simpa using lt_of_slot e
      exact ⟨a, List.getElem?_set_self (S.len ▸ l), nG, nF, r, nI⟩
    · rw [slot_st n]
      exact S.own j d z
  · rcases slot_set e1 with ⟨rfl, z⟩ | ⟨n, z⟩
    · rcases slot_set e2 with ⟨rfl, z2⟩ | ⟨n2, z2⟩
      · rfl
      · have q : a = b := by
          rcases slot_set e3 with ⟨_, q⟩ | ⟨n3, _⟩
          · injection q
          · exact absurd rfl n3
        rw [slot_st n2] at e4
        rw [← q] at e4
        exact absurd e4 (old l d' z2)
    · rcases slot_set e2 with ⟨rfl, z2⟩ | ⟨n2, z2⟩
      · have q : a = b := by
          rcases slot_set e4 with ⟨_, q⟩ | ⟨n3, _⟩
          · injection q
          · exact absurd rfl n3
        rw [slot_st n] at e3
        rw [← q] at e3
        exact absurd e3 (old j d z)
      · rw [slot_st n] at e3
        rw [slot_st n2] at e4
        exact S.sep j l d d' b z z2 e3 e4
  · rcases slot_set e with ⟨rfl, z⟩ | ⟨n, z⟩
    · cases z
    · rw [slot_st n]
      exact S.inp j d z
  · rcases slot_set e1 with ⟨rfl, z⟩ | ⟨n, z⟩
    · cases z
    · rcases slot_set e2 with ⟨rfl, z2⟩ | ⟨n2, z2⟩
      · cases z2
      · exact S.one j k c d z z2
/-- a slot takes a new object of its own -/
theorem StOk.new_own {i : Nat} {c : PV} {a : Addr} {o : HO} (S : StOk F io G Fr H σ ρ) (n : H a = none) (r : Own F G (upd H a o) a c) :
    StOk F io G Fr (upd H a o) (σ.set i (some (.ref a))) (ρ.set i (some (.own c))) := by
  refine (S.grow (Grow.new0 S.sub n)).take_own (S.sub.free n) (S.fsub.free n) (fun e => ?_) (fun j d e h => ?_) r
  · obtain ⟨_, _, o, h⟩ := S.iot a e
    rw [n] at h
    cases h
  · obtain ⟨b, h1, _, _, h4, _⟩ := S.own j d e
    rw [h] at h1
    cases h1
    obtain ⟨u, hu⟩ := h4.there
    rw [n] at hu
    cases hu
/-- a slot is forgotten -/
theorem slot_none {α : Type} {l : List (Option α)} {i j : Nat} {y : α} (h : (l.set i none)[j]? = some (some y)) : i ≠ j ∧ l[j]? = some (some y) := by
  by_cases e : i = j
  · subst e
    by_cases z : i < l.length
    · rw [List.getElem?_set_self z] at h
      cases h
    · rw [List.getElem?_eq_none (by rw [List.length_set]; omega)] at h
      cases h
  · rw [List.getElem?_set_ne e] at h
    exact ⟨e, h⟩
theorem StOk.wipe1 {i : Nat} {w : Option V} (S : StOk F io G Fr H σ ρ) : StOk F io G Fr H (σ.set i w) (ρ.set i none) := by
  refine ⟨S.sub, S.fsub, S.dis, by rw [List.length_set, List.length_set]; exact S.len, fun j q e => ?_, fun j d e => ?_, fun j l d d' b e1 e2 e3 e4 => ?_, S.iot, fun j d e => ?_, fun j k c d e1 e2 => ?_⟩
  · obtain ⟨n, z⟩ := slot_none e
    rw [List.getElem?_set_ne n]
    exact S.val j q z
  · obtain ⟨n, z⟩ := slot_none e
    rw [List.getElem?_set_ne n]
    exact S.own j d z
  · obtain ⟨n, z⟩ := slot_none e1
    obtain ⟨n2, z2⟩ := slot_none e2
    rw [List.getElem?_set_ne n] at e3
    rw [List.getElem?_set_ne n2] at e4
    exact S.sep j l d d' b z z2 e3 e4
  · obtain ⟨n, z⟩ := slot_none e
    rw [List.getElem?_set_ne n]
    exact S.inp j d z
  · exact S.one j k c d (slot_none e1).2 (slot_none e2).2
end
end Pl

set_option maxHeartbeats 4000000
/-! P1: meanings of expressions, tests, argument lists; the rules that give them. -/
namespace Pl
open PySem PySem.Spec PyProof.Rows L2

inductive Res (α : Type) where
  | ok (a : α) (ρ : Rho)
  | exc (c : Nat) (as : List PV) (ρ : Rho)
  | stuck
abbrev DD (α : Type) := Rho → Res α
abbrev DE := DD PV
def Res.bind {α β : Type} (r : Res α) (k : α → Rho → Res β) : Res β := match r with
  | .ok a ρ => k a ρ
  | .exc c as ρ => .exc c as ρ
  | .stuck => .stuck
def ofO {α : Type} (o : Option α) (ρ : Rho) : Res α := match o with
  | some a => .ok a ρ
  | none => .stuck

/-- how an error lies: its own dict holds its attributes -/
def ExcAt (F : Fx) (G H : Hp) (c : Nat) (as : List PV) (d : Option Addr) : Prop := match as with
  | [] => d = none
  | a :: r => ∃ p fs, d = some p ∧ H p = some (.xd fs) ∧ fs.map (·.1) = F.fld c ∧ Reps F G (a :: r) (fs.map (·.2))

section
variable {α β γ δ : Type}
/-- what must hold so that an expression with this meaning ends as wanted -/
def Post (R : Hp → α → β → Prop) (F : Fx) (io : Option Addr) (W : WX) (Fr G : Hp) (σ : L2.St) (Q : β → Hp → Prop) : Res α → Prop
  | .ok r ρ => ∀ v G' H', Same G G' → StOk F io G' Fr H' σ ρ → R G' r v → Q v H'
  | .exc c as ρ => ∀ d G' H', Same G G' → StOk F io G' Fr H' σ ρ → ExcAt F G' H' c as d → W (.ref (F.cls c)) d σ H'
  | .stuck => False
def tD (R : Hp → α → β → Prop) (F : Fx) (io : Option Addr) (W : WX) (d : DD α) : L2.St → Hp → (β → Hp → Prop) → Prop := fun σ H Q =>
  ∃ G Fr ρ, StOk F io G Fr H σ ρ ∧ Post R F io W Fr G σ Q (d ρ)
abbrev RB : Hp → Bool → Bool → Prop := fun _ a b => a = b
def tE (F : Fx) (io : Option Addr) (W : WX) (d : DE) : TE := tD (Rep F) F io W d
def tT (F : Fx) (io : Option Addr) (W : WX) (d : DD Bool) : TT := tD RB F io W d
def tA (F : Fx) (io : Option Addr) (W : WX) (d : DD (List PV)) : TA := tD (Reps F) F io W d
variable {R : Hp → α → β → Prop} {R' : Hp → γ → δ → Prop} {F : Fx} {io : Option Addr} {W : WX} {Fr G G' H : Hp} {σ : L2.St} {ρ : Rho}
theorem Post.gle {Q : β → Hp → Prop} (e : Same G G') : ∀ {r : Res α}, Post R F io W Fr G σ Q r → Post R F io W Fr G' σ Q r
  | .ok r ρ, h => fun v G1 H1 e1 => h v G1 H1 (e.trans e1)
  | .exc c as ρ, h => fun d G1 H1 e1 => h d G1 H1 (e.trans e1)
  | .stuck, h => h
/-- one part is done, the rest is left -/
theorem tD.step {d : DD α} {k : α → Rho → Res γ} {Q : δ → Hp → Prop} {Q1 : β → Hp → Prop} (S : StOk F io G Fr H σ ρ) (h : Post R' F io W Fr G σ Q ((d ρ).bind k))
    (f : ∀ v H1 G1 ρ1 x, Same G G1 → StOk F io G1 Fr H1 σ ρ1 → R G1 x v → Post R' F io W Fr G1 σ Q (k x ρ1) → Q1 v H1) : tD R F io W d σ H Q1 := by
  refine ⟨G, Fr, ρ, S, ?_⟩
  cases e : d ρ with
  | ok x ρ1 =>
    intro v G1 H1 e1 S1 r1
    rw [e] at h
    exact f v H1 G1 ρ1 x e1 S1 r1 (Post.gle e1 h)
  | exc c as ρ1 =>
    rw [e] at h
    exact h
  | stuck =>
    rw [e] at h
    exact h
theorem Post.done {a : α} {v : β} {Q : β → Hp → Prop} (h : Post R F io W Fr G σ Q (.ok a ρ)) (S : StOk F io G Fr H σ ρ) (r : R G a v) : Q v H := h v G H (Same.refl _) S r
end

theorem _root_.L2.PE.imp {X : Cx} {e : Expr} {t t' : TE} (h : PE X e t) (i : ∀ σ H Q, t' σ H Q → t σ H Q) : PE X e t' := ⟨fun pins s σ H Q I w => h.run pins s σ H Q I (i σ H Q w)⟩
theorem _root_.L2.PT.imp {X : Cx} {e : Expr} {t t' : TT} (h : PT X e t) (i : ∀ σ H Q, t' σ H Q → t σ H Q) : PT X e t' := ⟨fun pins s σ H Q I w => h.run pins s σ H Q I (i σ H Q w)⟩
theorem _root_.L2.PW.imp {X : Cx} {e : Expr} {t t' : TT} (h : PW X e t) (i : ∀ σ H Q, t' σ H Q → t σ H Q) : PW X e t' := ⟨fun wh pins s σ H Q I w => h.run wh pins s σ H Q I (i σ H Q w)⟩
theorem _root_.L2.PA.imp {X : Cx} {es : List Expr} {t t' : TA} (h : PA X es t) (i : ∀ σ H Q, t' σ H Q → t σ H Q) : PA X es t' := ⟨fun pos pins s σ H Q I w => h.run pos pins s σ H Q I (i σ H Q w)⟩

section
variable {X : Cx} {F : Fx} {io : Option Addr} {W : WX} {a b c e : Expr} {es : List Expr} {pos : Pos}

/-! ### names, constants -/
def dVar (i : Nat) : DE := fun ρ => match ρ[i]? with
  | some (some (.val p)) => .ok p ρ
  | _ => .stuck
def dC (p : PV) : DE := fun ρ => .ok p ρ
theorem pp_var {i : Nat} {x : Str} (h : PE X (.Name x pos) (tVar i)) : PE X (.Name x pos) (tE F io W (dVar i)) := by
  refine h.imp fun σ H Q ⟨G, Fr, ρ, S, p⟩ => ?_
  unfold dVar at p
  cases e : ρ[i]? with
  | none => rw [e] at p; exact p.elim
  | some o =>
    cases o with
    | none => rw [e] at p; exact p.elim
    | some sv =>
      cases sv with
      | val q =>
        rw [e] at p
        obtain ⟨v, h1, h2⟩ := S.val i q e
        exact ⟨v, h1, p.done S h2⟩
      | own q => rw [e] at p; exact p.elim
      | inp q => rw [e] at p; exact p.elim
theorem pp_c {v : V} {p : PV} (h : PE X e (tC v)) (r : ∀ G, Rep F G p v) : PE X e (tE F io W (dC p)) :=
  h.imp fun σ H Q ⟨G, Fr, ρ, S, q⟩ => Post.done (v := v) q S (r G)
theorem pp_int {i : Int} {j} : PE X (.Constant (.int i) j pos) (tE F io W (dC (.int i))) := pp_c pe_int fun _ => .int i
theorem pp_bl {k : Bool} {j} : PE X (.Constant (.bool k) j pos) (tE F io W (dC (.bl k))) := pp_c pe_bl fun _ => .bl k
theorem pp_non {j} : PE X (.Constant .none j pos) (tE F io W (dC .non)) := pp_c pe_non fun _ => .non
theorem pp_str {x : Str} {j} : PE X (.Constant (.str x) j pos) (tE F io W (dC (.str x))) := pp_c pe_str fun _ => .str x

/-! ### argument lists -/
def dNil : DD (List PV) := fun ρ => .ok [] ρ
def dCons (d : DE) (r : DD (List PV)) : DD (List PV) := fun ρ => (d ρ).bind fun x ρ => (r ρ).bind fun xs ρ => .ok (x :: xs) ρ
theorem pq_nil : PA X [] (tA F io W dNil) := pa_nil.imp fun σ H Q ⟨G, Fr, ρ, S, q⟩ => q.done S .nil
theorem pq_cons {d : DE} {r : DD (List PV)} (ha : PE X e (tE F io W d)) (hr : PA X es (tA F io W r)) (hs : starEach (e :: es) X.env = (false, eval e X.env) :: starEach es X.env := by rfl) : PA X (e :: es) (tA F io W (dCons d r)) := by
  refine (pa_cons ha hr hs).imp fun σ H Q ⟨G, Fr, ρ, S, q⟩ => ?_
  exact tD.step S q fun v H1 G1 ρ1 x e1 S1 r1 q1 => tD.step S1 q1 fun vs H2 G2 ρ2 xs e2 S2 r2 q2 => q2.done S2 (.cons (r1.same e2) r2)
/-! ### displays -/
def dTup (d : DD (List PV)) : DE := fun ρ => (d ρ).bind fun xs ρ => if xs.length ≤ 1000 then .ok (.tup xs) ρ else .stuck
def dLst (d : DD (List PV)) : DE := fun ρ => (d ρ).bind fun xs ρ => if xs.length ≤ 1000 then .ok (.lst xs) ρ else .stuck
theorem line1000 {n : Nat} (h : n ≤ 1000) : n ≤ sizeLine := Nat.le_trans h (by decide)
theorem pp_tup {d : DD (List PV)} {j} (h : PA X es (tA F io W d)) : PE X (.Tuple es j pos) (tE F io W (dTup d)) := by
  refine (pe_tup h).imp fun σ H Q ⟨G, Fr, ρ, S, q⟩ => ?_
  refine tD.step S q fun vs H1 G1 ρ1 xs e1 S1 r1 q1 => ?_
  by_cases l : xs.length ≤ 1000
  · rw [if_pos l] at q1
    refine ⟨by rw [← r1.length]; exact line1000 l, fun p n => ?_⟩
    exact q1 _ _ _ (same_upd (S1.sub.free n)) (S1.grow (Grow.new1 S1.sub n)) (.tup (.inl (.inl upd_same)) (r1.same (same_upd (S1.sub.free n))))
  · rw [if_neg l] at q1
    exact q1.elim
theorem pp_lst {d : DD (List PV)} (h : PA X es (tA F io W d)) : PE X (.List es pos) (tE F io W (dLst d)) := by
  refine (pe_lst h).imp fun σ H Q ⟨G, Fr, ρ, S, q⟩ => ?_
  refine tD.step S q fun vs H1 G1 ρ1 xs e1 S1 r1 q1 => ?_
  by_cases l : xs.length ≤ 1000
  · rw [if_pos l] at q1
    refine ⟨by rw [← r1.length]; exact line1000 l, fun p n => ?_⟩
    exact q1 _ _ _ (same_upd (S1.sub.free n)) (S1.grow (Grow.new1 S1.sub n)) (.lst upd_same (r1.same (same_upd (S1.sub.free n))))
  · rw [if_neg l] at q1
    exact q1.elim

/-! ### operators -/
def dBin (f : PV → PV → Option PV) (da db : DE) : DE := fun ρ => (da ρ).bind fun x ρ => (db ρ).bind fun y ρ => ofO (f x y) ρ
def dUn (f : PV → Option PV) (da : DE) : DE := fun ρ => (da ρ).bind fun x ρ => ofO (f x) ρ
/-- a rule by values is told by a plain function -/
def BinOk (F : Fx) (r : R2) (f : PV → PV → Option PV) : Prop := ∀ (G H : Hp) (v u : V) (x y z : PV) (Q : VK), Same G H → Rep F G x v → Rep F G y u → f x y = some z →
  (∀ v' G' H', Grow G H G' H' → Rep F G' z v' → Q v' H') → r v u H Q
def UnOk (F : Fx) (r : V → Hp → VK → Prop) (f : PV → Option PV) : Prop := ∀ (G H : Hp) (v : V) (x z : PV) (Q : VK), Same G H → Rep F G x v → f x = some z →
  (∀ v' G' H', Grow G H G' H' → Rep F G' z v' → Q v' H') → r v H Q
theorem Post.ofO {α β γ : Type} {R : Hp → α → β → Prop} {Fr G H : Hp} {σ : L2.St} {ρ : Rho} {o : Option α} {Q : β → Hp → Prop} (h : Post R F io W Fr G σ Q (ofO o ρ)) (S : StOk F io G Fr H σ ρ) :
    ∃ z, o = some z ∧ ∀ v' G' H', Grow G H G' H' → R G' z v' → Q v' H' := by
  cases o with
  | none => exact h.elim
  | some z => exact ⟨z, rfl, fun v' G' H' g r => h v' G' H' g.gle (S.grow g) r⟩
theorem bin_step {r : R2} {f : PV → PV → Option PV} {da db : DE} (hb : BinOk F r f) {σ : L2.St} {H : Hp} {Q : VK} (h : tE F io W (dBin f da db) σ H Q) : tOp r (tE F io W da) (tE F io W db) σ H Q := by
  obtain ⟨G, Fr, ρ, S, q⟩ := h
  refine tD.step S q fun v H1 G1 ρ1 x e1 S1 r1 q1 => tD.step S1 q1 fun u H2 G2 ρ2 y e2 S2 r2 q2 => ?_
  obtain ⟨z, hz, k⟩ := Post.ofO (γ := Unit) q2 S2
  exact hb G2 H2 v u x y z Q S2.sub (r1.same e2) r2 hz k
theorem pp_op {op : Operator} {r : R2} {f : PV → PV → Option PV} {da db : DE} (ho : OpR X (binaryOp op) r) (hb : BinOk F r f) (h1 : PE X a (tE F io W da)) (h2 : PE X b (tE F io W db)) : PE X (.BinOp a op b pos) (tE F io W (dBin f da db)) :=
  (pe_op ho h1 h2).imp fun _ _ _ h => bin_step hb h
theorem pp_cmp {op : CmpOp} {r : R2} {f : PV → PV → Option PV} {da db : DE} (ho : OpR X (compareOp op) r) (hb : BinOk F r f) (h1 : PE X a (tE F io W da)) (h2 : PE X b (tE F io W db)) (hm : behindInMarks op b = false) : PE X (.Compare a [op] [b] pos) (tE F io W (dBin f da db)) :=
  (pe_cmpR ho h1 h2 hm).imp fun _ _ _ h => bin_step hb h
theorem pp_un {op : UnaryOp} {r : V → Hp → VK → Prop} {f : PV → Option PV} {da : DE} (ho : UnR X (unaryOp op) r) (hb : UnOk F r f) (h1 : PE X a (tE F io W da)) : PE X (.UnaryOp op a pos) (tE F io W (dUn f da)) := by
  refine (pe_un ho h1).imp fun σ H Q ⟨G, Fr, ρ, S, q⟩ => ?_
  refine tD.step S q fun v H1 G1 ρ1 x e1 S1 r1 q1 => ?_
  obtain ⟨z, hz, k⟩ := Post.ofO (γ := Unit) q1 S1
  exact hb G1 H1 v x z Q S1.sub r1 hz k

/-! ### tests -/
/-- a value that is True or False -/
def asB : PV → Option Bool
  | .bl b => some b
  | _ => none
/-- the truth of a value -/
def truth : PV → Option Bool
  | .non => some false
  | .bl b => some b
  | .int i => some (i != 0)
  | .str x => if x.length ≤ 1000000 then some ((x.length : Int) != 0) else none
  | .tup xs => some !xs.isEmpty
  | .lst xs => some !xs.isEmpty
  | _ => none
def dTru (d : DE) : DD Bool := fun ρ => (d ρ).bind fun x ρ => ofO (truth x) ρ
def dAsB (d : DE) : DD Bool := fun ρ => (d ρ).bind fun x ρ => ofO (asB x) ρ
theorem isEmpty_reps {G : Hp} : ∀ {ps : List PV} {vs : List V}, Reps F G ps vs → ps.isEmpty = vs.isEmpty
  | _, _, .nil => rfl
  | _, _, .cons _ _ => rfl
theorem tru_of {K : PySem.W.Frag} {G H : Hp} {x : PV} {v : V} {k : Bool} (hK : F.K = K) (s : Same G H) (r : Rep F G x v) (h : truth x = some k) : TruV K v H k := by
  subst hK
  cases r with
  | non => cases h; rfl
  | bl b => cases h; rfl
  | int i => cases h; rfl
  | str x =>
    have h : (if x.length ≤ 1000000 then some ((x.length : Int) != 0) else none) = some k := h
    by_cases l : x.length ≤ 1000000
    · rw [if_pos l] at h
      cases h
      exact ⟨Nat.le_trans l (by decide), rfl⟩
    · rw [if_neg l] at h
      cases h
  | tup q r => cases h; exact .inr (.inl ⟨_, SqT.same s q, by rw [isEmpty_reps r]⟩)
  | lst q r => cases h; exact .inl ⟨_, .of (s _ _ q), by rw [isEmpty_reps r]⟩
  | dK => cases h
  | dT => cases h
  | ins => cases h
  | scr => cases h
/-- an expression (no comparison, and, or, not) as a test -/
theorem pt_tru {d : DE} (hK : F.K = X.K) (h : PE X a (tE F io W d)) (he : ∀ whole, isTrue a X.env whole = (do let v ← whole; standAt a.pos; holding [v] (truthy v)) := by intro _; rfl) : PT X a (tT F io W (dTru d)) := by
  refine (pt_truth h he).imp fun σ H Q ⟨G, Fr, ρ, S, q⟩ => ?_
  refine tD.step S q fun v H1 G1 ρ1 x e1 S1 r1 q1 => ?_
  obtain ⟨k, hk, kk⟩ := Post.ofO (γ := Unit) q1 S1
  exact ⟨k, tru_of hK S1.sub r1 hk, kk k G1 H1 (Grow.refl S1.sub) rfl⟩
theorem asB_bl {G : Hp} {x : PV} {v : V} {k : Bool} (r : Rep F G x v) (h : asB x = some k) : v = .bl k := by
  cases r with
  | bl b => cases h; rfl
  | _ => cases h
theorem pt_cmp' {op : CmpOp} {r : R2} {f : PV → PV → Option PV} {da db : DE} (ho : OpR X (compareOp op) r) (hb : BinOk F r f) (h1 : PE X a (tE F io W da)) (h2 : PE X b (tE F io W db)) (hm : behindInMarks op b = false) : PT X (.Compare a [op] [b] pos) (tT F io W (dAsB (dBin f da db))) := by
  refine (pt_cmpR ho h1 h2 hm).imp fun σ H Q ⟨G, Fr, ρ, S, q⟩ => ?_
  refine bin_step (F := F) (io := io) (W := W) hb ?_
  refine tD.step S q fun v H1 G1 ρ1 x e1 S1 r1 q1 => ?_
  obtain ⟨k, hk, kk⟩ := Post.ofO (γ := Unit) q1 S1
  exact ⟨k, asB_bl r1 hk, kk k G1 H1 (Grow.refl S1.sub) rfl⟩
def dNot (d : DD Bool) : DD Bool := fun ρ => (d ρ).bind fun k ρ => .ok (!k) ρ
def dAnd (d u : DD Bool) : DD Bool := fun ρ => (d ρ).bind fun k ρ => if k = true then u ρ else .ok false ρ
def dOr (d u : DD Bool) : DD Bool := fun ρ => (d ρ).bind fun k ρ => if k = true then .ok true ρ else u ρ
theorem qt_not {d : DD Bool} (h : PT X a (tT F io W d)) : PT X (.UnaryOp .Not a pos) (tT F io W (dNot d)) := by
  refine (pt_not h).imp fun σ H Q ⟨G, Fr, ρ, S, q⟩ => ?_
  exact tD.step S q fun v H1 G1 ρ1 x e1 S1 r1 q1 => q1 (!v) G1 H1 (Same.refl _) S1 (by rw [show x = v from r1])
theorem qw_and1 {d : DD Bool} (h : PT X a (tT F io W d)) : PW X (.BoolOp .And [a] pos) (tT F io W d) := pw_and1 h
theorem qw_or1 {d : DD Bool} (h : PT X a (tT F io W d)) : PW X (.BoolOp .Or [a] pos) (tT F io W d) := pw_or1 h
theorem qw_and {d u : DD Bool} (h : PT X a (tT F io W d)) (h2 : PW X (.BoolOp .And (b :: es) pos) (tT F io W u)) : PW X (.BoolOp .And (a :: b :: es) pos) (tT F io W (dAnd d u)) := by
  refine (pw_and h h2).imp fun σ H Q ⟨G, Fr, ρ, S, q⟩ => ?_
  refine tD.step S q fun v H1 G1 ρ1 x e1 S1 r1 q1 => ?_
  have r1 : x = v := r1
  subst r1
  cases x with
  | true =>
    rw [if_pos rfl] at q1 ⊢
    exact ⟨G1, Fr, ρ1, S1, q1⟩
  | false =>
    rw [if_neg Bool.false_ne_true] at q1 ⊢
    exact q1.done S1 rfl
theorem qw_or {d u : DD Bool} (h : PT X a (tT F io W d)) (h2 : PW X (.BoolOp .Or (b :: es) pos) (tT F io W u)) : PW X (.BoolOp .Or (a :: b :: es) pos) (tT F io W (dOr d u)) := by
  refine (pw_or h h2).imp fun σ H Q ⟨G, Fr, ρ, S, q⟩ => ?_
  refine tD.step S q fun v H1 G1 ρ1 x e1 S1 r1 q1 => ?_
  have r1 : x = v := r1
  subst r1
  cases x with
  | true =>
    rw [if_pos rfl] at q1 ⊢
    exact q1.done S1 rfl
  | false =>
    rw [if_neg Bool.false_ne_true] at q1 ⊢
    exact ⟨G1, Fr, ρ1, S1, q1⟩
/-! ### .. as values -/
def dAndV (d u : DE) : DE := fun ρ => (d ρ).bind fun x ρ => match x with
  | .bl true => u ρ
  | .bl false => .ok (.bl false) ρ
  | _ => .stuck
def dOrV (d u : DE) : DE := fun ρ => (d ρ).bind fun x ρ => match x with
  | .bl true => .ok (.bl true) ρ
  | .bl false => u ρ
  | _ => .stuck
def dNotV (d : DE) : DE := fun ρ => (d ρ).bind fun x ρ => match x with
  | .bl k => .ok (.bl (!k)) ρ
  | _ => .stuck
theorem pp_one {op : BoolOp} {d : DE} (h : PE X a (tE F io W d)) : PE X (.BoolOp op [a] pos) (tE F io W d) := pe_one h
theorem pp_and {d u : DE} (h : PE X a (tE F io W d)) (h2 : PE X (.BoolOp .And (b :: es) pos) (tE F io W u)) : PE X (.BoolOp .And (a :: b :: es) pos) (tE F io W (dAndV d u)) := by
  refine (pe_and h h2).imp fun σ H Q ⟨G, Fr, ρ, S, q⟩ => ?_
  refine tD.step S q fun v H1 G1 ρ1 x e1 S1 r1 q1 => ?_
  cases r1 with
  | bl k =>
    cases k with
    | true => exact ⟨true, rfl, by rw [if_pos rfl]; exact ⟨G1, Fr, ρ1, S1, q1⟩⟩
    | false => exact ⟨false, rfl, by rw [if_neg Bool.false_ne_true]; exact q1.done S1 (.bl false)⟩
  | _ => exact q1.elim
theorem pp_or {d u : DE} (h : PE X a (tE F io W d)) (h2 : PE X (.BoolOp .Or (b :: es) pos) (tE F io W u)) : PE X (.BoolOp .Or (a :: b :: es) pos) (tE F io W (dOrV d u)) := by
  refine (pe_or h h2).imp fun σ H Q ⟨G, Fr, ρ, S, q⟩ => ?_
  refine tD.step S q fun v H1 G1 ρ1 x e1 S1 r1 q1 => ?_
  cases r1 with
  | bl k =>
    cases k with
    | true => exact ⟨true, rfl, by rw [if_pos rfl]; exact q1.done S1 (.bl true)⟩
    | false => exact ⟨false, rfl, by rw [if_neg Bool.false_ne_true]; exact ⟨G1, Fr, ρ1, S1, q1⟩⟩
  | _ => exact q1.elim
theorem pp_not {d : DE} (h : PE X a (tE F io W d)) : PE X (.UnaryOp .Not a pos) (tE F io W (dNotV d)) := by
  refine (pe_not h).imp fun σ H Q ⟨G, Fr, ρ, S, q⟩ => ?_
  refine tD.step S q fun v H1 G1 ρ1 x e1 S1 r1 q1 => ?_
  cases r1 with
  | bl k => exact ⟨k, rfl, q1.done S1 (.bl (!k))⟩
  | _ => exact q1.elim
/-- a if t else b -/
def dIf (t : DD Bool) (d u : DE) : DE := fun ρ => (t ρ).bind fun k ρ => if k = true then d ρ else u ρ
theorem pp_if {t : DD Bool} {d u : DE} (hc : PT X c (tT F io W t)) (h : PE X a (tE F io W d)) (h2 : PE X b (tE F io W u)) : PE X (.IfExp c a b pos) (tE F io W (dIf t d u)) := by
  refine (pe_ifExp hc h h2).imp fun σ H Q ⟨G, Fr, ρ, S, q⟩ => ?_
  refine tD.step S q fun v H1 G1 ρ1 x e1 S1 r1 q1 => ?_
  have r1 : x = v := r1
  subst r1
  cases x with
  | true =>
    rw [if_pos rfl] at q1 ⊢
    exact ⟨G1, Fr, ρ1, S1, q1⟩
  | false =>
    rw [if_neg Bool.false_ne_true] at q1 ⊢
    exact ⟨G1, Fr, ρ1, S1, q1⟩
/-- a < b < c -/
def dChain (f g : PV → PV → Option PV) (da db dc : DE) : DE := fun ρ => (da ρ).bind fun x ρ => (db ρ).bind fun y ρ => match f x y with
  | some (.bl true) => (dc ρ).bind fun z ρ => ofO (g y z) ρ
  | some (.bl false) => .ok (.bl false) ρ
  | _ => .stuck
/-- a comparison that yields a bool and changes nothing -/
def CmpOk (F : Fx) (r : R2) (f : PV → PV → Option PV) : Prop := ∀ (G H : Hp) (v u : V) (x y z : PV) (Q : VK), Same G H → Rep F G x v → Rep F G y u → f x y = some z → ∃ k, z = .bl k ∧ (Q (.bl k) H → r v u H Q)
theorem CmpOk.bin {r : R2} {f : PV → PV → Option PV} (h : CmpOk F r f) : BinOk F r f := fun G H v u x y z Q s rx ry e k => by
  obtain ⟨b, rfl, q⟩ := h G H v u x y z Q s rx ry e
  exact q (k _ G H (Grow.refl s) (.bl b))
theorem chain_step {r r' : R2} {f g : PV → PV → Option PV} {da db dc : DE} (hb : CmpOk F r f) (hb' : BinOk F r' g) {σ : L2.St} {H : Hp} {Q : VK} (h : tE F io W (dChain f g da db dc) σ H Q) :
    tChain r r' (tE F io W da) (tE F io W db) (tE F io W dc) σ H Q := by
  obtain ⟨G, Fr, ρ, S, q⟩ := h
  refine tD.step S q fun v H1 G1 ρ1 x e1 S1 r1 q1 => tD.step S1 q1 fun u H2 G2 ρ2 y e2 S2 r2 q2 => ?_
  cases e : f x y with
  | none => rw [e] at q2; exact q2.elim
  | some z =>
    obtain ⟨k, rfl, kk⟩ := hb G2 H2 v u x y z (fun z H3 => ∃ k, z = .bl k ∧ (if k = true then (tE F io W dc) σ H3 fun w' H4 => r' u w' H4 Q else Q (.bl false) H3)) S2.sub (r1.same e2) r2 e
    rw [e] at q2
    refine kk ⟨k, rfl, ?_⟩
    cases k with
    | true =>
      rw [if_pos rfl]
      refine tD.step S2 q2 fun w H3 G3 ρ3 z e3 S3 r3 q3 => ?_
      obtain ⟨z', hz, k'⟩ := Post.ofO (γ := Unit) q3 S3
      exact hb' G3 H3 u w y z z' Q S3.sub (r2.same e3) r3 hz k'
    | false =>
      rw [if_neg Bool.false_ne_true]
      exact q2.done S2 (.bl false)
theorem pp_chain {op op' : CmpOp} {r r' : R2} {f g : PV → PV → Option PV} {da db dc : DE} (ho : OpR X (compareOp op) r) (ho' : OpR X (compareOp op') r') (hb : CmpOk F r f) (hb' : BinOk F r' g) (h1 : PE X a (tE F io W da)) (h2 : PE X b (tE F io W db)) (h3 : PE X c (tE F io W dc))
    (hm : lastMarks [op, op'] [b, c] = false := by with_unfolding_all rfl) : PE X (.Compare a [op, op'] [b, c] pos) (tE F io W (dChain f g da db dc)) :=
  (pe_chain ho ho' h1 h2 h3 hm).imp fun _ _ _ h => chain_step hb hb' h
theorem qt_chain {op op' : CmpOp} {r r' : R2} {f g : PV → PV → Option PV} {da db dc : DE} (ho : OpR X (compareOp op) r) (ho' : OpR X (compareOp op') r') (hb : CmpOk F r f) (hb' : BinOk F r' g) (h1 : PE X a (tE F io W da)) (h2 : PE X b (tE F io W db)) (h3 : PE X c (tE F io W dc))
    (hm : lastMarks [op, op'] [b, c] = false := by with_unfolding_all rfl) : PT X (.Compare a [op, op'] [b, c] pos) (tT F io W (dAsB (dChain f g da db dc))) := by
  refine (pt_chain ho ho' h1 h2 h3 hm).imp fun σ H Q ⟨G, Fr, ρ, S, q⟩ => ?_
  refine chain_step (F := F) (io := io) (W := W) hb hb' ?_
  refine tD.step S q fun v H1 G1 ρ1 x e1 S1 r1 q1 => ?_
  obtain ⟨k, hk, kk⟩ := Post.ofO (γ := Unit) q1 S1
  exact ⟨k, asB_bl r1 hk, kk k G1 H1 (Grow.refl S1.sub) rfl⟩

/-! ### calls of the text's own defs -/
/-- what a def hands back -/
inductive FR where
  | ok (p : PV)
  | exc (c : Nat) (as : List PV)
  | stuck
/-- a def of n parameters that changes nothing does what φ says -/
def spP (F : Fx) (n : Nat) (φ : List PV → FR) : Sp := fun vs H Q E => vs.length = n ∧ ∃ G ps, Same G H ∧ Reps F G ps vs ∧ match φ ps with
  | .ok r => ∀ v G' H', Grow G H G' H' → Rep F G' r v → Q v H'
  | .exc c as => ∀ d G' H', Grow G H G' H' → ExcAt F G' H' c as d → E (.ref (F.cls c)) d H'
  | .stuck => False
class LenA (d : DD (List PV)) (n : outParam Nat) : Prop where
  len : ∀ ρ xs ρ', d ρ = .ok xs ρ' → xs.length = n
instance : LenA dNil 0 := ⟨fun ρ xs ρ' h => by cases h; rfl⟩
instance {d : DE} {r : DD (List PV)} {n : Nat} [L : LenA r n] : LenA (dCons d r) (n + 1) := ⟨fun ρ xs ρ' h => by
  unfold dCons at h
  cases e : d ρ with
  | ok x ρ1 =>
    rw [e] at h
    have h : (r ρ1).bind (fun xs ρ => Res.ok (x :: xs) ρ) = .ok xs ρ' := h
    cases e2 : r ρ1 with
    | ok ys ρ2 =>
      rw [e2] at h
      cases h
      exact congrArg (· + 1) (L.len _ _ _ e2)
    | exc c as ρ2 => rw [e2] at h; cases h
    | stuck => rw [e2] at h; cases h
  | exc c as ρ1 => rw [e] at h; cases h
  | stuck => rw [e] at h; cases h⟩
def dCall (φ : List PV → FR) (d : DD (List PV)) : DE := fun ρ => (d ρ).bind fun xs ρ => match φ xs with
  | .ok r => .ok r ρ
  | .exc c as => .exc c as ρ
  | .stuck => .stuck
theorem pp_call {k : Nat} {f : Addr} {fd : FuncData} {ps : List Str} {φ : List PV → FR} {x : Str} {p : Pos} {d : DD (List PV)} (n : Nat) (tk : Takes X W) (G : FnOk X.prog X.w X.K X.mg X.base (CX X.prog X.w) k f fd ps (spP F n φ)) (hr : Room k X.A) (hm : X.mg x = some (.ref f))
    (hk : PySem.W.keepIn X.K (.ref f) = true) (hb : Binds X.K fd ps []) (hl : ps.length = n) (hg : Gl X x) (ha : PA X (e :: es) (tA F io W d)) (hn : (e :: es).length = n := by rfl) (hdb : (x == ("__debug__" : Str)) = false := by decide)
    (he : starEach (e :: es) X.env = (false, eval e X.env) :: starEach es X.env := by rfl) (hpl : (backTo pos (starEach es X.env)).any (·.1) = false := by rfl) [L : LenA d n] :
    PE X (.Call (.Name x p) (e :: es) [] pos) (tE F io W (dCall φ d)) := by
  refine (pe_callS (E := fun σ => WE W σ) G hr hg hm hk hb (fun σ => passAt tk σ) ha hdb he hpl).imp fun σ H Q ⟨G, Fr, ρ, S, q⟩ => ?_
  refine ⟨G, Fr, ρ, S, ?_⟩
  have q : Post (Rep F) F io W Fr G σ Q ((d ρ).bind fun xs ρ => match φ xs with
    | .ok r => .ok r ρ
    | .exc c as => .exc c as ρ
    | .stuck => .stuck) := q
  cases ed : d ρ with
  | stuck => rw [ed] at q; exact q
  | exc c as ρ1 => rw [ed] at q; exact q
  | ok xs ρ1 =>
    rw [ed] at q
    intro vs G1 H1 e1 S1 r1
    refine ⟨by rw [← r1.length]; exact L.len _ _ _ ed, G1, xs, S1.sub, r1, ?_⟩
    have q : Post (Rep F) F io W Fr G σ Q (match φ xs with
      | .ok r => .ok r ρ1
      | .exc c as => .exc c as ρ1
      | .stuck => .stuck) := q
    cases ef : φ xs with
    | ok r =>
      rw [ef] at q
      exact fun v G2 H2 g r2 => q v G2 H2 (e1.trans g.gle) (S1.grow g) r2
    | exc c as =>
      rw [ef] at q
      exact fun dd G2 H2 g x2 => q dd G2 H2 (e1.trans g.gle) (S1.grow g) x2
    | stuck => rw [ef] at q; exact q
end
end Pl

set_option maxHeartbeats 4000000
/-! P2: operators, comparisons, subscripts, slices of plain values. -/
namespace Pl
open PySem PySem.Spec PyProof.Rows L2

/-! ### data -/
mutual
def pdt : PV → PyData
  | .non => .none
  | .bl b => .bool b
  | .int i => .int i
  | .str x => .str x
  | .tup xs => .tuple (pdts xs)
  | .lst xs => .list (pdts xs)
  | .dct _ _ => .dict []
  | .ins _ _ => .dict []
  | .scr _ => .dict []
def pdts : List PV → List PyData
  | [] => []
  | x :: xs => pdt x :: pdts xs
end
section
variable {F : Fx} {G H : Hp} {K : PySem.W.Frag}
mutual
theorem dp_of (s : Same G H) : ∀ {p : PV} {v : V}, Rep F G p v → SeqAt.shaped (pdt p) = true ∨ (pdt p).canLay0 = true → Dp F.K H v (pdt p)
  | _, _, .non, _ => .non
  | _, _, .bl b, _ => .bl b
  | _, _, .int i, _ => .int i
  | _, _, .str x, _ => .str x
  | _, _, .tup h r, c => .tup (SqT.same s h) (dps_of s r (by rcases c with c | c; exact SeqAt.canLay_of_shaped c; exact c))
  | _, _, .lst h r, c => .lst (.of (s _ _ h)) (dps_of s r (by rcases c with c | c; exact SeqAt.canLay_of_shaped c; exact c))
  | _, _, .scr h, c => by rcases c with c | c <;> cases c
  | _, _, .dK h k r, c => by rcases c with c | c <;> cases c
  | _, _, .dT h k n u r, c => by rcases c with c | c <;> cases c
  | _, _, .ins h k r, c => by rcases c with c | c <;> cases c
theorem dps_of (s : Same G H) : ∀ {ps : List PV} {vs : List V}, Reps F G ps vs → PyData.canLayAll0 (pdts ps) = true → DpAll F.K H vs (pdts ps)
  | _, _, .nil, _ => .nil
  | _, _, .cons h r, c => by
    have c2 := Bool.and_eq_true_iff.mp (show (PyData.canLay0 (pdt _) && PyData.canLayAll0 (pdts _)) = true from c)
    exact .cons (dp_of s h (.inr c2.1)) (dps_of s r c2.2)
end
theorem pdts_eq : ∀ xs : List PV, pdts xs = xs.map pdt
  | [] => rfl
  | x :: xs => by rw [pdts, List.map_cons, pdts_eq xs]

/-! ### arithmetic -/
def LIM : Nat := 1000000
theorem lim_line {n : Nat} (h : n ≤ LIM) : n ≤ sizeLine := Nat.le_trans h (by decide)
def pAdd : PV → PV → Option PV
  | .int i, .int j => some (.int (i + j))
  | .str x, .str y => if x.length + y.length ≤ LIM then some (.str (x ++ y)) else none
  | .lst xs, .lst ys => if xs.length + ys.length ≤ LIM then some (.lst (xs ++ ys)) else none
  | .tup xs, .tup ys => if xs.length + ys.length ≤ LIM then some (.tup (xs ++ ys)) else none
  | _, _ => none
def rAdd (K : PySem.W.Frag) : R2 := fun x y H Q => (((rI0 fun i j => .int (i + j)) x y H Q ∨ (∃ i j, x = .str i ∧ y = .str j ∧ i.length + j.length ≤ sizeLine ∧ Q (.str (i ++ j)) H)) ∨ rCat x y H Q) ∨ rCatA K x y H Q
theorem op_addA {X : Cx} : OpR X (binaryOp .Add) (rAdd X.K) := OpR.or (OpR.or (OpR.or op_add op_add_str) op_cat) op_catA
theorem ite_some {α : Type} {c : Prop} [Decidable c] {a b : α} (h : (if c then some a else none) = some b) : c ∧ a = b := by
  by_cases k : c
  · rw [if_pos k] at h
    exact ⟨k, Option.some.inj h⟩
  · rw [if_neg k] at h
    cases h
theorem b_add (hK : F.K = K) : BinOk F (rAdd K) pAdd := by
  subst hK
  intro G H v u x y z Q s rx ry e k
  cases rx <;> cases ry <;> first | (exfalso; cases e; done) | skip
  case int.int i j =>
    cases e
    exact .inl (.inl (.inl ⟨_, _, rfl, rfl, k _ G H (Grow.refl s) (.int _)⟩))
  case str.str i j =>
    obtain ⟨l, rfl⟩ := ite_some e
    exact .inl (.inl (.inr ⟨_, _, rfl, rfl, lim_line l, k _ G H (Grow.refl s) (.str _)⟩))
  case lst.lst xs a vs hx rx ys b us hy ry =>
    obtain ⟨l, rfl⟩ := ite_some e
    refine .inl (.inr ⟨_, _, _, _, rfl, rfl, s _ _ hx, s _ _ hy, by rw [← rx.length, ← ry.length]; exact lim_line l, fun p n => ?_⟩)
    have e1 := same_upd (o := .lst (vs ++ us)) (s.free n)
    exact k _ _ _ (Grow.new1 s n) (.lst upd_same ((rx.same e1).append (ry.same e1)))
  case tup.tup xs a vs hx rx ys b us hy ry =>
    obtain ⟨l, rfl⟩ := ite_some e
    refine .inr ⟨_, _, _, _, rfl, rfl, SqT.same s hx, SqT.same s hy, by rw [← rx.length, ← ry.length]; exact lim_line l, fun e1 => ?_, fun _ e1 => ?_, fun _ _ p n => ?_⟩
    · subst e1
      cases rx
      exact k _ G H (Grow.refl s) (.tup hy ry)
    · subst e1
      cases ry
      rw [List.append_nil] at k
      exact k _ G H (Grow.refl s) (.tup hx rx)
    · have e1 := same_upd (o := .tup (vs ++ us)) (s.free n)
      exact k _ _ _ (Grow.new1 s n) (.tup (.inl (.inl upd_same)) ((rx.same e1).append (ry.same e1)))
def pSub : PV → PV → Option PV
  | .int i, .int j => some (.int (i - j))
  | _, _ => none
theorem b_sub : BinOk F (rI0 fun i j => .int (i - j)) pSub := by
  intro G H v u x y z Q s rx ry e k
  cases rx <;> cases ry <;> first | (exfalso; cases e; done) | skip
  cases e
  exact ⟨_, _, rfl, rfl, k _ G H (Grow.refl s) (.int _)⟩
def pMul : PV → PV → Option PV
  | .int i, .int j => if i.natAbs.log2 + j.natAbs.log2 < 1000000 ∨ j.natAbs < 2 ^ 63 ∨ i.natAbs < 2 ^ 63 then some (.int (i * j)) else none
  | _, _ => none
theorem op_mulA {X : Cx} : OpR X (binaryOp .Mult) (fun x y H Q => (rI CMul fun i j => .int (i * j)) x y H Q ∨ (rI CMulW fun i j => .int (i * j)) x y H Q) := OpR.or op_mul op_mulW
theorem b_mul : BinOk F (fun x y H Q => (rI CMul fun i j => .int (i * j)) x y H Q ∨ (rI CMulW fun i j => .int (i * j)) x y H Q) pMul := by
  intro G H v u x y z Q s rx ry e k
  cases rx <;> cases ry <;> first | (exfalso; cases e; done) | skip
  obtain ⟨l, rfl⟩ := ite_some e
  rcases l with l | l | l
  · exact .inr ⟨_, _, rfl, rfl, l, k _ G H (Grow.refl s) (.int _)⟩
  · exact .inl ⟨_, _, rfl, rfl, .inr (by omega), k _ G H (Grow.refl s) (.int _)⟩
  · exact .inl ⟨_, _, rfl, rfl, .inl (by omega), k _ G H (Grow.refl s) (.int _)⟩
def pDiv : PV → PV → Option PV
  | .int i, .int j => if 0 < j ∧ j.natAbs.log2 < 9000 then some (.int (i / j)) else none
  | _, _ => none
theorem b_div : BinOk F (rI CDivW fun i j => .int (i / j)) pDiv := by
  intro G H v u x y z Q s rx ry e k
  cases rx <;> cases ry <;> first | (exfalso; cases e; done) | skip
  obtain ⟨l, rfl⟩ := ite_some e
  exact ⟨_, _, rfl, rfl, l, k _ G H (Grow.refl s) (.int _)⟩
def pMod : PV → PV → Option PV
  | .int i, .int j => if 0 < j then some (.int (i % j)) else none
  | _, _ => none
theorem b_mod : BinOk F (rI (fun _ j => 0 < j) fun i j => .int (i % j)) pMod := by
  intro G H v u x y z Q s rx ry e k
  cases rx <;> cases ry <;> first | (exfalso; cases e; done) | skip
  obtain ⟨l, rfl⟩ := ite_some e
  exact ⟨_, _, rfl, rfl, l, k _ G H (Grow.refl s) (.int _)⟩
def pNeg : PV → Option PV
  | .int i => some (.int (-i))
  | _ => none
theorem u_neg : UnOk F (rU fun i => .int (-i)) pNeg := by
  intro G H v x z Q s rx e k
  cases rx <;> first | (exfalso; cases e; done) | skip
  cases e
  exact ⟨_, rfl, k _ G H (Grow.refl s) (.int _)⟩

/-! ### comparisons -/
def pLt : PV → PV → Option PV
  | .int i, .int j => some (.bl (decide (i < j)))
  | _, _ => none
def pLe : PV → PV → Option PV
  | .int i, .int j => some (.bl (decide (i ≤ j)))
  | _, _ => none
def pGt : PV → PV → Option PV
  | .int i, .int j => some (.bl (decide (j < i)))
  | _, _ => none
def pGe : PV → PV → Option PV
  | .int i, .int j => some (.bl (decide (j ≤ i)))
  | _, _ => none
theorem c_int {g : Int → Int → Bool} {f : PV → PV → Option PV} (hf : ∀ x y z, f x y = some z → ∃ i j, x = .int i ∧ y = .int j ∧ z = .bl (g i j)) : CmpOk F (rI0 fun i j => .bl (g i j)) f := by
  intro G H v u x y z Q s rx ry e
  obtain ⟨i, j, rfl, rfl, rfl⟩ := hf x y z e
  cases rx
  cases ry
  exact ⟨_, rfl, fun q => ⟨_, _, rfl, rfl, q⟩⟩
theorem c_lt : CmpOk F (rI0 fun i j => .bl (decide (i < j))) pLt := c_int fun x y z e => by cases x <;> cases y <;> cases e; exact ⟨_, _, rfl, rfl, rfl⟩
theorem c_le : CmpOk F (rI0 fun i j => .bl (decide (i ≤ j))) pLe := c_int fun x y z e => by cases x <;> cases y <;> cases e; exact ⟨_, _, rfl, rfl, rfl⟩
theorem c_gt : CmpOk F (rI0 fun i j => .bl (decide (j < i))) pGt := c_int fun x y z e => by cases x <;> cases y <;> cases e; exact ⟨_, _, rfl, rfl, rfl⟩
theorem c_ge : CmpOk F (rI0 fun i j => .bl (decide (j ≤ i))) pGe := c_int fun x y z e => by cases x <;> cases y <;> cases e; exact ⟨_, _, rfl, rfl, rfl⟩
/-- == of data -/
def pEq (x y : PV) : Option PV := if SeqAt.shaped (pdt x) = true ∧ SeqAt.shaped (pdt y) = true then some (.bl (PyData.eqv (pdt x) (pdt y))) else none
def pNe (x y : PV) : Option PV := if SeqAt.shaped (pdt x) = true ∧ SeqAt.shaped (pdt y) = true then some (.bl (!PyData.eqv (pdt x) (pdt y))) else none
theorem c_eq (hK : F.K = K) : CmpOk F (rEqD K) pEq := by
  subst hK
  intro G H v u x y z Q s rx ry e
  obtain ⟨⟨l1, l2⟩, rfl⟩ := ite_some e
  exact ⟨_, rfl, fun q => ⟨_, _, dp_of s rx (.inl l1), dp_of s ry (.inl l2), l1, l2, q⟩⟩
theorem c_ne (hK : F.K = K) : CmpOk F (rNeD K) pNe := by
  subst hK
  intro G H v u x y z Q s rx ry e
  obtain ⟨⟨l1, l2⟩, rfl⟩ := ite_some e
  exact ⟨_, rfl, fun q => ⟨_, _, dp_of s rx (.inl l1), dp_of s ry (.inl l2), l1, l2, q⟩⟩
/-- is None, is not None -/
def isN : PV → Bool
  | .non => true
  | _ => false
def pIsN (x y : PV) : Option PV := if isN y = true then some (.bl (isN x)) else none
def pNotN (x y : PV) : Option PV := if isN y = true then some (.bl (!isN x)) else none
theorem isN_of {p : PV} {v : V} (r : Rep F G p v) : isN p = decide (v = .non) := by cases r <;> rfl
theorem isN_non {p : PV} {v : V} (r : Rep F G p v) (h : isN p = true) : v = .non := by cases r <;> first | rfl | cases h
theorem c_isN : CmpOk F (fun x y H Q => y = .non ∧ Q (.bl (decide (x = .non))) H) pIsN := by
  intro G H v u x y z Q s rx ry e
  obtain ⟨l, rfl⟩ := ite_some e
  exact ⟨_, rfl, fun q => ⟨isN_non ry l, by rw [← isN_of rx]; exact q⟩⟩
theorem c_notN : CmpOk F (fun x y H Q => y = .non ∧ Q (.bl (!decide (x = .non))) H) pNotN := by
  intro G H v u x y z Q s rx ry e
  obtain ⟨l, rfl⟩ := ite_some e
  exact ⟨_, rfl, fun q => ⟨isN_non ry l, by rw [← isN_of rx]; exact q⟩⟩
/-- x in a written list or tuple of flat things; x in a list of data; a text in a text -/
def flatP : PV → Bool
  | .non => true
  | .bl _ => true
  | .int _ => true
  | .str _ => true
  | _ => false
def vFl : PV → V
  | .bl b => .bl b
  | .int i => .int i
  | .str x => .str x
  | _ => .non
def inStr (x y : Str) : Bool := !(Builtin.Str.occurrences y x 0 y.length 1).isEmpty
def pInB (x y : PV) : Option Bool := match y with
  | .lst ys => if SeqAt.shaped (pdt x) = true ∧ SeqAt.shaped (pdt (.lst ys)) = true then some ((pdts ys).any fun z => PyData.eqv z (pdt x)) else none
  | .tup ys => if flatP x = true ∧ ys.all flatP = true then some (inV (vFl x) (ys.map vFl)) else none
  | .str b => match x with
    | .str a => some (inStr a b)
    | _ => none
  | _ => none
def pIn (x y : PV) : Option PV := (pInB x y).map .bl
def pNotIn (x y : PV) : Option PV := (pInB x y).map fun k => .bl (!k)
theorem fl_of {p : PV} {v : V} (r : Rep F G p v) (h : flatP p = true) : v = vFl p ∧ flatV v = true := by cases r <;> first | exact ⟨rfl, rfl⟩ | cases h
theorem fls_of : ∀ {ps : List PV} {vs : List V}, Reps F G ps vs → ps.all flatP = true → vs = ps.map vFl ∧ vs.all flatV = true
  | _, _, .nil, _ => ⟨rfl, rfl⟩
  | _, _, .cons h r, c => by
    obtain ⟨c1, c2⟩ := Bool.and_eq_true_iff.mp (show (flatP _ && List.all _ flatP) = true from c)
    obtain ⟨e1, f1⟩ := fl_of h c1
    obtain ⟨e2, f2⟩ := fls_of r c2
    refine ⟨by rw [List.map_cons, ← e1, ← e2], by rw [List.all_cons, f1, f2] <;> rfl⟩
def rInA (K : PySem.W.Frag) : R2 := fun x y H Q => (rInD K x y H Q ∨ rIn K false x y H Q) ∨ (∃ i j, x = .str i ∧ y = .str j ∧ Q (.bl (!(Builtin.Str.occurrences j i 0 j.length 1).isEmpty)) H)
def rNotInA (K : PySem.W.Frag) : R2 := fun x y H Q => (rNotInD K x y H Q ∨ rIn K true x y H Q) ∨ (∃ i j, x = .str i ∧ y = .str j ∧ Q (.bl (!(!(Builtin.Str.occurrences j i 0 j.length 1).isEmpty))) H)
theorem op_inA {X : Cx} (hu : X.A.units + 65 < cLine) : OpR X (compareOp .In) (rInA X.K) := OpR.or (OpR.or (op_inD hu) op_in_seq) op_in_str
theorem op_notInA {X : Cx} (hu : X.A.units + 65 < cLine) : OpR X (compareOp .NotIn) (rNotInA X.K) := OpR.or (OpR.or (op_notInD hu) op_notIn_seq) op_notin_str
theorem c_in (hK : F.K = K) : CmpOk F (rInA K) pIn := by
  subst hK
  intro G H v u x y z Q s rx ry e
  unfold pIn at e
  cases eb : pInB x y with
  | none => rw [eb] at e; cases e
  | some k =>
    rw [eb] at e
    cases e
    refine ⟨k, rfl, fun q => ?_⟩
    cases ry <;> first | (exfalso; cases eb; done) | skip
    case str b =>
      cases rx <;> first | (exfalso; cases eb; done) | skip
      cases eb
      exact .inr ⟨_, _, rfl, rfl, q⟩
    case tup ys a us hy ry =>
      obtain ⟨⟨l1, l2⟩, rfl⟩ := ite_some eb
      obtain ⟨e1, f1⟩ := fl_of rx l1
      obtain ⟨e2, f2⟩ := fls_of ry l2
      exact .inl (.inr ⟨_, _, rfl, .inr (SqT.same s hy), f1, f2, by rw [e1, e2]; exact q⟩)
    case lst ys a us hy ry =>
      obtain ⟨⟨l1, l2⟩, rfl⟩ := ite_some eb
      exact .inl (.inl ⟨_, _, dp_of s rx (.inl l1), dp_of s (.lst hy ry) (.inl l2), l1, l2, q⟩)
theorem c_notIn (hK : F.K = K) : CmpOk F (rNotInA K) pNotIn := by
  subst hK
  intro G H v u x y z Q s rx ry e
  unfold pNotIn at e
  cases eb : pInB x y with
  | none => rw [eb] at e; cases e
  | some k =>
    rw [eb] at e
    cases e
    refine ⟨!k, rfl, fun q => ?_⟩
    cases ry <;> first | (exfalso; cases eb; done) | skip
    case str b =>
      cases rx <;> first | (exfalso; cases eb; done) | skip
      cases eb
      exact .inr ⟨_, _, rfl, rfl, q⟩
    case tup ys a us hy ry =>
      obtain ⟨⟨l1, l2⟩, rfl⟩ := ite_some eb
      obtain ⟨e1, f1⟩ := fl_of rx l1
      obtain ⟨e2, f2⟩ := fls_of ry l2
      exact .inl (.inr ⟨_, _, rfl, .inr (SqT.same s hy), f1, f2, by rw [e1, e2]; exact q⟩)
    case lst ys a us hy ry =>
      obtain ⟨⟨l1, l2⟩, rfl⟩ := ite_some eb
      exact .inl (.inl ⟨_, _, dp_of s rx (.inl l1), dp_of s (.lst hy ry) (.inl l2), l1, l2, q⟩)

/-! ### subscripts -/
def pIx : PV → PV → Option PV
  | .lst xs, .int i => atI xs i
  | .tup xs, .int i => atI xs i
  | .str x, .int i => if x.length ≤ LIM then (atI x.cps.toList i).map fun c => .str ⟨#[c]⟩ else none
  | _, _ => none
def rIx (K : PySem.W.Frag) : R2 := fun x y H Q => (rIxL K x y H Q ∨ rIxT K x y H Q) ∨ rIxS x y H Q
theorem ix_any {X : Cx} : IxR X (rIx X.K) := by
  intro value slice pins s σ H x y v u Q I rx ry h hs
  rcases h with (h | h) | h
  · exact ix_list value slice pins s σ H x y v u Q I rx ry h hs
  · exact ix_tup value slice pins s σ H x y v u Q I rx ry h hs
  · exact ix_str value slice pins s σ H x y v u Q I rx ry h hs
theorem atI_rep {ps : List PV} {vs : List V} {i : Int} {p : PV} (r : Reps F G ps vs) (h : atI ps i = some p) : ∃ v, atI vs i = some v ∧ Rep F G p v := by
  unfold atI at h ⊢
  rw [← r.length]
  cases e : ixN ps.length i with
  | none => rw [e] at h; cases h
  | some j =>
    rw [e] at h
    obtain ⟨v, h1, h2⟩ := r.get (i := j) (p := p) h
    exact ⟨v, h1, h2⟩
theorem b_ix (hK : F.K = K) : BinOk F (rIx K) pIx := by
  subst hK
  intro G H v u x y z Q s rx ry e k
  cases rx <;> cases ry <;> first | (exfalso; cases e; done) | skip
  case str.int a i =>
    have e : (if a.length ≤ LIM then (atI a.cps.toList i).map (fun c => PV.str ⟨#[c]⟩) else none) = some z := e
    by_cases l : a.length ≤ LIM
    · rw [if_pos l] at e
      cases ea : atI a.cps.toList i with
      | none => rw [ea] at e; cases e
      | some c =>
        rw [ea] at e
        cases e
        exact .inr ⟨_, _, _, rfl, rfl, lim_line l, ea, k _ G H (Grow.refl s) (.str _)⟩
    · rw [if_neg l] at e
      cases e
  case tup.int ps a vs h r i =>
    obtain ⟨v, h1, h2⟩ := atI_rep r e
    exact .inl (.inr ⟨_, _, _, _, rfl, rfl, SqT.same s h, h1, k _ G H (Grow.refl s) h2⟩)
  case lst.int ps a vs h r i =>
    obtain ⟨v, h1, h2⟩ := atI_rep r e
    exact .inl (.inl ⟨_, _, _, _, rfl, rfl, .of (s _ _ h), h1, k _ G H (Grow.refl s) h2⟩)
end
section
variable {X : Cx} {F : Fx} {io : Option Addr} {W : WX} {a b : Expr} {pos : Pos}
theorem pp_ix {da db : DE} (hK : F.K = X.K) (h1 : PE X a (tE F io W da)) (h2 : PE X b (tE F io W db)) (hs : PlainIx b := by intro _ _; rfl) : PE X (.Subscript a b pos) (tE F io W (dBin pIx da db)) :=
  (pe_ix ix_any h1 h2 hs).imp fun _ _ _ h => bin_step (b_ix hK) h
/-! ### slices -/
def dPart (d : Option DE) : DD (Option Int) := match d with
  | none => fun ρ => .ok none ρ
  | some d => fun ρ => (d ρ).bind fun x ρ => match x with
    | .int i => .ok (some i) ρ
    | _ => .stuck
def cutL {α : Type} (xs : List α) (lo hi : Option Int) : List α := (xs.drop (HT.sIx xs.length 0 lo)).take (HT.sIx xs.length xs.length hi - HT.sIx xs.length 0 lo)
def pSl (x : PV) (lo hi : Option Int) : Option PV := match x with
  | .lst xs => some (.lst (cutL xs lo hi))
  | .tup xs => some (.tup (cutL xs lo hi))
  | .str x => if x.length ≤ LIM then some (.str (cutS x lo hi)) else none
  | _ => none
def dSl (da : DE) (dl dh : Option DE) : DE := fun ρ => (da ρ).bind fun x ρ => (dPart dl ρ).bind fun lo ρ => (dPart dh ρ).bind fun hi ρ => ofO (pSl x lo hi) ρ
abbrev RO : Hp → Option Int → Option Int → Prop := fun _ a b => a = b
theorem qo_none : PO X none (tD RO F io W (dPart none)) := ⟨fun pins s σ H Q I ⟨G, Fr, ρ, S, q⟩ => po_none.run pins s σ H Q I (q.done S rfl)⟩
theorem qo_some {d : DE} (h : PE X a (tE F io W d)) : PO X (some a) (tD RO F io W (dPart (some d))) := by
  refine ⟨fun pins s σ H Q I ⟨G, Fr, ρ, S, q⟩ => (po_some h).run pins s σ H Q I ?_⟩
  refine tD.step S q fun v H1 G1 ρ1 x e1 S1 r1 q1 => ?_
  cases r1 <;> first | exact q1.elim | skip
  exact ⟨_, rfl, q1.done S1 rfl⟩
def rSlX (K : PySem.W.Frag) : V → Option Int → Option Int → Hp → VK → Prop := fun x lo hi H Q => (rSlL K x lo hi H Q ∨ rSlA K x lo hi H Q) ∨ rSlS x lo hi H Q
theorem sl_any : SlR X (rSlX X.K) := by
  intro pins s σ H x v vl vu lo hi sl Q I rx hs pl pu h
  rcases h with (h | h) | h
  · exact sl_list pins s σ H x v vl vu lo hi sl Q I rx hs pl pu h
  · exact sl_tupA pins s σ H x v vl vu lo hi sl Q I rx hs pl pu h
  · exact sl_str pins s σ H x v vl vu lo hi sl Q I rx hs pl pu h
theorem cut_rep {G : Hp} {ps : List PV} {vs : List V} (lo hi : Option Int) (r : Reps F G ps vs) : Reps F G (cutL ps lo hi) (cutV vs lo hi) := by
  unfold cutL cutV
  rw [← r.length]
  exact (r.drop _).take _
theorem cut_whole {α : Type} {xs : List α} {lo hi : Option Int} (h : HT.sIx xs.length 0 lo = 0 ∧ HT.sIx xs.length xs.length hi = xs.length) : cutL xs lo hi = xs := by
  unfold cutL
  rw [h.1, h.2, List.drop_zero, Nat.sub_zero, List.take_length]
theorem pp_sl {da : DE} {lo hi : Option Expr} {dl dh : Option DE} {p2 : Pos} (hK : F.K = X.K) (h1 : PE X a (tE F io W da)) (h2 : PO X lo (tD RO F io W (dPart dl))) (h3 : PO X hi (tD RO F io W (dPart dh))) : PE X (.Subscript a (.Slice lo hi none p2) pos) (tE F io W (dSl da dl dh)) := by
  refine (pe_slice sl_any h1 h2 h3).imp fun σ H Q ⟨G, Fr, ρ, S, q⟩ => ?_
  refine tD.step S q fun v H1 G1 ρ1 x e1 S1 r1 q1 => tD.step S1 q1 fun l H2 G2 ρ2 l' e2 S2 r2 q2 => tD.step S2 q2 fun h H3 G3 ρ3 h' e3 S3 r3 q3 => ?_
  have r2 : l' = l := r2
  have r3 : h' = h := r3
  subst r2
  subst r3
  obtain ⟨z, hz, k⟩ := Post.ofO (γ := Unit) q3 S3
  have r1 := r1.same (e2.trans e3)
  cases r1 <;> first | (exfalso; cases hz; done) | skip
  case str x =>
    obtain ⟨l, rfl⟩ := ite_some hz
    exact .inr ⟨_, rfl, lim_line l, k _ G3 H3 (Grow.refl S3.sub) (.str _)⟩
  case tup ps p vs hx r =>
    cases hz
    refine .inl (.inr ⟨_, _, rfl, by rw [← hK]; exact SqT.same S3.sub hx, fun w => ?_, fun w p n => ?_⟩)
    · rw [← r.length] at w
      have := k _ G3 H3 (Grow.refl S3.sub) (by rw [cut_whole w]; exact .tup hx r)
      exact this
    · exact k _ _ _ (Grow.new1 S3.sub n) (.tup (.inl (.inl upd_same)) ((cut_rep _ _ r).same (same_upd (S3.sub.free n))))
  case lst ps p vs hx r =>
    cases hz
    refine .inl (.inl ⟨_, _, rfl, .of (S3.sub _ _ hx), fun p n => ?_⟩)
    exact k _ _ _ (Grow.new1 S3.sub n) (.lst upd_same ((cut_rep _ _ r).same (same_upd (S3.sub.free n))))
end
end Pl

set_option maxHeartbeats 4000000
/-! P3: statements, blocks, loops, a def's body. -/
namespace Pl
open PySem PySem.Spec PyProof.Rows L2

/-- how a statement ends -/
inductive Out where
  | nx (ρ : Rho)
  | rt (p : PV) (ρ : Rho)
  | exc (c : Nat) (as : List PV) (ρ : Rho)
  | stuck
abbrev DS := Rho → Out
def Res.toOut {α : Type} (r : Res α) (k : α → Rho → Out) : Out := match r with
  | .ok a ρ => k a ρ
  | .exc c as ρ => .exc c as ρ
  | .stuck => .stuck
def Out.thn (o : Out) (k : DS) : Out := match o with
  | .nx ρ => k ρ
  | .rt p ρ => .rt p ρ
  | .exc c as ρ => .exc c as ρ
  | .stuck => .stuck
section
variable {F : Fx} {io : Option Addr} {W : WX} {Fr G G' H : Hp} {σ : L2.St} {ρ : Rho} {D : Ends}
def PostS (F : Fx) (io : Option Addr) (W : WX) (Fr G : Hp) (D : Ends) : Out → Prop
  | .nx ρ => ∀ σ' G' H', Same G G' → StOk F io G' Fr H' σ' ρ → D.nx σ' H'
  | .rt p ρ => ∀ v σ' G' H', Same G G' → StOk F io G' Fr H' σ' ρ → Rep F G' p v → D.rt v H'
  | .exc c as ρ => ∀ d σ' G' H', Same G G' → StOk F io G' Fr H' σ' ρ → ExcAt F G' H' c as d → W (.ref (F.cls c)) d σ' H'
  | .stuck => False
def tS (F : Fx) (io : Option Addr) (W : WX) (d : DS) : TS := fun D σ H => ∃ G Fr ρ, StOk F io G Fr H σ ρ ∧ PostS F io W Fr G D (d ρ)
theorem PostS.gle (e : Same G G') : ∀ {o : Out}, PostS F io W Fr G D o → PostS F io W Fr G' D o
  | .nx ρ, h => fun σ1 G1 H1 e1 => h σ1 G1 H1 (e.trans e1)
  | .rt p ρ, h => fun v σ1 G1 H1 e1 => h v σ1 G1 H1 (e.trans e1)
  | .exc c as ρ, h => fun d σ1 G1 H1 e1 => h d σ1 G1 H1 (e.trans e1)
  | .stuck, h => h
theorem tD.stepS {α β : Type} {R : Hp → α → β → Prop} {d : DD α} {k : α → Rho → Out} {Q1 : β → Hp → Prop} (S : StOk F io G Fr H σ ρ) (h : PostS F io W Fr G D ((d ρ).toOut k))
    (f : ∀ v H1 G1 ρ1 x, Same G G1 → StOk F io G1 Fr H1 σ ρ1 → R G1 x v → PostS F io W Fr G1 D (k x ρ1) → Q1 v H1) : tD R F io W d σ H Q1 := by
  refine ⟨G, Fr, ρ, S, ?_⟩
  cases e : d ρ with
  | ok x ρ1 =>
    intro v G1 H1 e1 S1 r1
    rw [e] at h
    exact f v H1 G1 ρ1 x e1 S1 r1 (PostS.gle e1 h)
  | exc c as ρ1 =>
    rw [e] at h
    exact fun d G' H' e1 S1 x => h d σ G' H' e1 S1 x
  | stuck =>
    rw [e] at h
    exact h
theorem PostS.next (h : PostS F io W Fr G D (.nx ρ)) (S : StOk F io G Fr H σ ρ) : D.nx σ H := h σ G H (Same.refl _) S
theorem PostS.imp {D' : Ends} (n : ∀ σ H, D.nx σ H → D'.nx σ H) (r : ∀ v H, D.rt v H → D'.rt v H) : ∀ {o : Out}, PostS F io W Fr G D o → PostS F io W Fr G D' o
  | .nx ρ, h => fun σ1 G1 H1 e1 S1 => n _ _ (h σ1 G1 H1 e1 S1)
  | .rt p ρ, h => fun v σ1 G1 H1 e1 S1 r1 => r _ _ (h v σ1 G1 H1 e1 S1 r1)
  | .exc c as ρ, h => h
  | .stuck, h => h
/-- what comes behind -/
theorem PostS.seq {d : DS} : ∀ {o : Out}, PostS F io W Fr G D (o.thn d) → PostS F io W Fr G { D with nx := fun σ H => tS F io W d D σ H } o
  | .nx ρ, h => fun σ1 G1 H1 e1 S1 => ⟨G1, Fr, ρ, S1, PostS.gle e1 h⟩
  | .rt p ρ, h => h
  | .exc c as ρ, h => h
  | .stuck, h => h
end
theorem _root_.L2.PS.imp {X : Cx} {st : Stmt} {t t' : TS} (h : PS X st t) (i : ∀ D σ H, t' D σ H → t D σ H) : PS X st t' := ⟨fun pins s σ H D I w => h.run pins s σ H D I (i D σ H w)⟩
theorem _root_.L2.PSs.imp {X : Cx} {st : List Stmt} {t t' : TS} (h : PSs X st t) (i : ∀ D σ H, t' D σ H → t D σ H) : PSs X st t' := ⟨fun pins s σ H D I w => h.run pins s σ H D I (i D σ H w)⟩

section
variable {X : Cx} {F : Fx} {io : Option Addr} {W : WX} {st : Stmt} {rest body : List Stmt} {a b c e : Expr} {pos : Pos}
def sNil : DS := fun ρ => .nx ρ
def sSeq (d u : DS) : DS := fun ρ => (d ρ).thn u
theorem ss_nil : PSs X [] (tS F io W sNil) := pss_nil.imp fun D σ H ⟨G, Fr, ρ, S, q⟩ => PostS.next q S
theorem ss_cons {d u : DS} (h : PS X st (tS F io W d)) (h2 : PSs X rest (tS F io W u)) : PSs X (st :: rest) (tS F io W (sSeq d u)) :=
  (pss_cons h h2).imp fun D σ H ⟨G, Fr, ρ, S, q⟩ => ⟨G, Fr, ρ, S, PostS.seq q⟩
theorem ss_one {d : DS} (h : PS X st (tS F io W d)) : PSs X [st] (tS F io W d) := pss_one h
theorem st_pass : PS X (.Pass pos) (tS F io W sNil) := ps_pass.imp fun D σ H ⟨G, Fr, ρ, S, q⟩ => PostS.next q S
/-- an expression whose value is dropped -/
def sExpr (d : DE) : DS := fun ρ => (d ρ).toOut fun _ ρ => .nx ρ
theorem st_expr {d : DE} (h : PE X e (tE F io W d)) (hs : swapsWith e none pos.line X.env = pure false := by rfl) : PS X (.Expr e pos) (tS F io W (sExpr d)) :=
  (ps_expr h hs).imp fun D σ H ⟨G, Fr, ρ, S, q⟩ => tD.stepS S q fun v H1 G1 ρ1 x e1 S1 r1 q1 => PostS.next q1 S1
def sRet (d : DE) : DS := fun ρ => (d ρ).toOut fun x ρ => .rt x ρ
theorem st_ret {d : DE} (h : PE X e (tE F io W d)) : PS X (.Return (some e) pos) (tS F io W (sRet d)) :=
  (ps_ret h).imp fun D σ H ⟨G, Fr, ρ, S, q⟩ => tD.stepS S q fun v H1 G1 ρ1 x e1 S1 r1 q1 => q1 v σ G1 H1 (Same.refl _) S1 r1
def sRetN : DS := fun ρ => .rt .non ρ
theorem st_retN : PS X (.Return none pos) (tS F io W sRetN) := ps_retN.imp fun D σ H ⟨G, Fr, ρ, S, q⟩ => q .non σ G H (Same.refl _) S .non
def sIf (t : DD Bool) (d u : DS) : DS := fun ρ => (t ρ).toOut fun k ρ => if k = true then d ρ else u ρ
theorem st_if {t : DD Bool} {d u : DS} {l r : List Stmt} (hc : PT X c (tT F io W t)) (h : PSs X l (tS F io W d)) (h2 : PSs X r (tS F io W u)) : PS X (.If c l r pos) (tS F io W (sIf t d u)) := by
  refine (ps_if hc h h2).imp fun D σ H ⟨G, Fr, ρ, S, q⟩ => ?_
  refine tD.stepS S q fun v H1 G1 ρ1 x e1 S1 r1 q1 => ?_
  have r1 : x = v := r1
  subst r1
  cases x with
  | true =>
    rw [if_pos rfl] at q1 ⊢
    exact ⟨G1, Fr, ρ1, S1, q1⟩
  | false =>
    rw [if_neg Bool.false_ne_true] at q1 ⊢
    exact ⟨G1, Fr, ρ1, S1, q1⟩
/-- name = value -/
def sSet (i : Nat) (d : DE) : DS := fun ρ => (d ρ).toOut fun x ρ => .nx (ρ.set i (some (.val x)))
theorem asg_step {i : Nat} {d : DE} {D : Ends} {σ : L2.St} {H : Hp} (h : tS F io W (sSet i d) D σ H) : tAsg (tE F io W d) (gName i) D σ H := by
  obtain ⟨G, Fr, ρ, S, q⟩ := h
  exact tD.stepS S q fun v H1 G1 ρ1 x e1 S1 r1 q1 => PostS.next q1 (S1.set_val r1)
theorem st_set {i : Nat} {x : Str} {d : DE} {pos' : Pos} (hN : X.N.Nodup) (hi : X.N[i]? = some x) (hx : Loc X.env.scope x) (h : PE X e (tE F io W d)) (hs : swapsWith e (some (.Name x pos')) pos.line X.env = pure false := by rfl)
    (hf : X.fn x = true ∨ X.env.scope.names.lookup x = some .local := by first | exact .inl rfl | exact .inr rfl | assumption) : PS X (.Assign [.Name x pos'] e pos) (tS F io W (sSet i d)) :=
  (ps_set hN hi hx h hs hf).imp fun D σ H q => asg_step q
/-- targets: a name; several names -/
inductive Tg where
  | one (i : Nat)
  | tup (is : List Nat)
def setAll : List Nat → List PV → Rho → Option Rho
  | [], [], ρ => some ρ
  | i :: is, p :: ps, ρ => setAll is ps (ρ.set i (some (.val p)))
  | _, _, _ => none
def Tg.set : Tg → PV → Rho → Option Rho
  | .one i, p, ρ => some (ρ.set i (some (.val p)))
  | .tup is, .tup ps, ρ => setAll is ps ρ
  | .tup _, _, _ => none
def Tg.slots : Tg → List Nat
  | .one i => [i]
  | .tup is => is
theorem wipe_set {i : Nat} {v : Option V} : ∀ {vs : List Nat} {σ : L2.St}, i ∈ vs → wipe (σ.set i v) vs = wipe σ vs
  | [], _, h => by cases h
  | j :: vs, σ, h => by
    show (wipe (σ.set i v) vs).set j none = (wipe σ vs).set j none
    by_cases e : i ∈ vs
    · rw [wipe_set e]
    · rcases List.mem_cons.mp h with rfl | h
      · have c : ∀ (vs : List Nat) (σ : L2.St), i ∉ vs → wipe (σ.set i v) vs = (wipe σ vs).set i v := by
          intro vs
          induction vs with
          | nil => intro σ _; rfl
          | cons k vs ih =>
            intro σ h
            show (wipe (σ.set i v) vs).set k none = ((wipe σ vs).set k none).set i v
            rw [ih σ (fun z => h (List.mem_cons_of_mem _ z)), List.set_comm _ _ (fun z => h (by rw [z]; exact List.mem_cons_self))]
        rw [c vs σ e, List.set_set]
      · exact absurd h e
/-- a target's rule gives this -/
def TgOk (F : Fx) (io : Option Addr) (t : TG) (g : Tg) : Prop := ∀ (G Fr H : Hp) (σ : L2.St) (ρ ρ' : Rho) (p : PV) (v : V) (Q : L2.St → Hp → Prop), StOk F io G Fr H σ ρ → Rep F G p v → g.set p ρ = some ρ' →
  (∀ σ', StOk F io G Fr H σ' ρ' → (∀ vs, (∀ i ∈ g.slots, i ∈ vs) → wipe σ' vs = wipe σ vs) → Q σ' H) → t v σ H Q
theorem tg_one {i : Nat} : TgOk F io (gName i) (.one i) := fun G Fr H σ ρ ρ' p v Q S r e k => by
  cases e
  exact k _ (S.set_val r) fun vs h => wipe_set (h i (List.mem_singleton.mpr rfl))
def TgsOk (F : Fx) (io : Option Addr) (t : TGs) (is : List Nat) : Prop := ∀ (G Fr H : Hp) (σ : L2.St) (ρ ρ' : Rho) (ps : List PV) (vs : List V) (Q : L2.St → Hp → Prop), StOk F io G Fr H σ ρ → Reps F G ps vs → setAll is ps ρ = some ρ' →
  (∀ σ', StOk F io G Fr H σ' ρ' → (∀ vs, (∀ i ∈ is, i ∈ vs) → wipe σ' vs = wipe σ vs) → Q σ' H) → t vs σ H Q
theorem tgs_nil : TgsOk F io gNil [] := fun G Fr H σ ρ ρ' ps vs Q S r e k => by
  cases r with
  | nil => cases e; exact ⟨rfl, k _ S fun _ _ => rfl⟩
  | cons => cases e
theorem tgs_cons {i : Nat} {t : TGs} {is : List Nat} (h : TgsOk F io t is) : TgsOk F io (gCons (gName i) t) (i :: is) := fun G Fr H σ ρ ρ' ps vs Q S r e k => by
  cases r with
  | nil => cases e
  | cons r rr => exact ⟨_, _, rfl, h G Fr H _ _ _ _ _ Q (S.set_val r) rr e fun σ' S' w => k σ' S' fun vs hv => (w vs fun j hj => hv j (List.mem_cons_of_mem _ hj)).trans (wipe_set (hv i List.mem_cons_self))⟩
theorem setAll_len : ∀ {is : List Nat} {ps : List PV} {ρ ρ' : Rho}, setAll is ps ρ = some ρ' → ps.length = is.length
  | [], [], _, _, _ => rfl
  | i :: is, p :: ps, ρ, ρ', h => congrArg (· + 1) (setAll_len (is := is) (ps := ps) h)
  | [], _ :: _, _, _, h => by cases h
  | _ :: _, [], _, _, h => by cases h
theorem tg_tup {t : TGs} {is : List Nat} {n : Nat} (hK : F.K = X.K) (h : TgsOk F io t is) (hn : is.length = n) : TgOk F io (gTup X.K n t) (.tup is) := fun G Fr H σ ρ ρ' p v Q S r e k => by
  cases r <;> first | (exfalso; cases e; done) | skip
  case tup ps a vs hx r =>
    exact ⟨_, _, rfl, by rw [← hK]; exact SqT.same S.sub hx, by rw [← r.length, ← hn]; exact setAll_len e, h G Fr H σ ρ ρ' ps vs Q S r e k⟩
/-- target = value -/
def sAsg (g : Tg) (d : DE) : DS := fun ρ => (d ρ).toOut fun x ρ => match g.set x ρ with
  | some ρ' => .nx ρ'
  | none => .stuck
theorem st_asg {tg : Expr} {t : TG} {g : Tg} {d : DE} (h : PE X e (tE F io W d)) (hg : PG X tg t) (ht : TgOk F io t g) (hs : swapsWithSole [tg] e pos.line X.env = pure false := by rfl) (hw : swappedStores [tg] e X.env = pure none := by rfl)
    (h1 : (assignEach [tg] X.env).map (·.2) = [assign tg X.env] := by rfl) : PS X (.Assign [tg] e pos) (tS F io W (sAsg g d)) := by
  refine (ps_asg h hg hs hw h1).imp fun D σ H ⟨G, Fr, ρ, S, q⟩ => ?_
  refine tD.stepS S q fun v H1 G1 ρ1 x e1 S1 r1 q1 => ?_
  cases eg : g.set x ρ1 with
  | none => rw [eg] at q1; exact q1.elim
  | some ρ2 =>
    rw [eg] at q1
    exact ht G1 Fr H1 σ ρ1 ρ2 x v D.nx S1 r1 eg fun σ' S2 _ => PostS.next q1 S2
/-- a, b = x, y of local names -/
def sPar (i j : Nat) (d : DD (List PV)) : DS := fun ρ => (d ρ).toOut fun xs ρ => match xs with
  | [x, y] => .nx ((ρ.set i (some (.val x))).set j (some (.val y)))
  | _ => .stuck
theorem st_par {i j : Nat} {x y : Str} {d : DD (List PV)} {px py pt : Pos} {kt k2 pt2} (hc : X.calm = true) (hN : X.N.Nodup) (hi : X.N[i]? = some x) (hj : X.N[j]? = some y) (hij : i ≠ j)
    (hx : X.env.scope.names.lookup x = some .local) (hy : X.env.scope.names.lookup y = some .local) (ha : PA X [a, b] (tA F io W d))
    (hw : swappedStores [.Tuple [.Name x px, .Name y py] kt pt] (.Tuple [a, b] k2 pt2) X.env = pure (some [x, y]))
    (hs : swapsWithSole [.Tuple [.Name x px, .Name y py] kt pt] (.Tuple [a, b] k2 pt2) pos.line X.env = pure false := by rfl) :
    PS X (.Assign [.Tuple [.Name x px, .Name y py] kt pt] (.Tuple [a, b] k2 pt2) pos) (tS F io W (sPar i j d)) := by
  refine (ps_par hc hN hi hj hij hx hy ha hw hs).imp fun D σ H ⟨G, Fr, ρ, S, q⟩ => ?_
  refine tD.stepS S q fun vs H1 G1 ρ1 xs e1 S1 r1 q1 => ?_
  cases r1 with
  | nil => exact q1.elim
  | cons r rr =>
    cases rr with
    | nil => exact q1.elim
    | cons r2 rr =>
      cases rr with
      | cons => exact q1.elim
      | nil => exact ⟨_, _, rfl, PostS.next q1 ((S1.set_val r).set_val r2)⟩
/-- name op= e -/
def sAug (i : Nat) (f : PV → PV → Option PV) (d : DE) : DS := fun ρ => match ρ[i]? with
  | some (some (.val x)) => (d ρ).toOut fun y ρ => match f x y with
    | some z => .nx (ρ.set i (some (.val z)))
    | none => .stuck
  | _ => .stuck
def IpOk (F : Fx) (r : TIp) (f : PV → PV → Option PV) : Prop := ∀ (G H : Hp) (v u : V) (x y z : PV) (Q : VK), Same G H → Rep F G x v → Rep F G y u → f x y = some z →
  (∀ v' G' H', Grow G H G' H' → Rep F G' z v' → Q v' H') → r v u H Q
theorem ip_addI : IpOk F (ipI fun i j => i + j) (fun x y => match x, y with
    | .int i, .int j => some (.int (i + j))
    | _, _ => none) := by
  intro G H v u x y z Q s rx ry e k
  cases rx <;> cases ry <;> first | (exfalso; cases e; done) | skip
  cases e
  exact ⟨_, _, rfl, rfl, k _ G H (Grow.refl s) (.int _)⟩
theorem st_aug {i : Nat} {x : Str} {d : DE} {op : Operator} {ti : TIp} {f : PV → PV → Option PV} {pos' : Pos} (hN : X.N.Nodup) (hi : X.N[i]? = some x) (hx : Loc X.env.scope x) (h : PE X e (tE F io W d)) (ho : PIp X op ti) (hp : IpOk F ti f)
    (hf : X.fn x = true ∨ X.env.scope.names.lookup x = some .local := by first | exact .inl rfl | exact .inr rfl | assumption) : PS X (.AugAssign (.Name x pos') op e pos) (tS F io W (sAug i f d)) := by
  refine (ps_aug hN hi hx h ho hf).imp fun D σ H ⟨G, Fr, ρ, S, q⟩ => ?_
  unfold sAug at q
  cases ei : ρ[i]? with
  | none => rw [ei] at q; exact q.elim
  | some o =>
    cases o with
    | none => rw [ei] at q; exact q.elim
    | some sv =>
      cases sv with
      | own => rw [ei] at q; exact q.elim
      | inp => rw [ei] at q; exact q.elim
      | val x =>
        rw [ei] at q
        obtain ⟨v, h1, h2⟩ := S.val i x ei
        refine ⟨v, h1, ?_⟩
        refine tD.stepS S q fun u H1 G1 ρ1 y e1 S1 r1 q1 => ?_
        cases ez : f x y with
        | none => rw [ez] at q1; exact q1.elim
        | some z =>
          rw [ez] at q1
          refine hp G1 H1 v u x y z _ S1.sub (h2.same e1) r1 ez fun v' G2 H2 g r2 => ?_
          exact PostS.next (PostS.gle g.gle q1) ((S1.grow g).set_val r2)

/-! ### while -/
def whileL (t : DD Bool) (d : DS) : Nat → DS
  | 0, _ => .stuck
  | n + 1, ρ => (t ρ).toOut fun k ρ => if k = true then (d ρ).thn (whileL t d n) else .nx ρ
theorem st_while {t : DD Bool} {d : DS} (n : Nat) (hp : PassesOwn (model X.prog X.w) X.A X.env X.xe) (hc : PT X c (tT F io W t)) (hb : PSs X body (tS F io W d)) : PS X (.While c body [] pos) (tS F io W (whileL t d n)) := by
  refine (ps_while hp hc hb).imp fun D σ H ⟨G0, Fr, ρ0, S0, q0⟩ => ?_
  refine ⟨fun m σ H => ∃ G ρ, Same G0 G ∧ StOk F io G Fr H σ ρ ∧ PostS F io W Fr G D (whileL t d m ρ), ⟨n, G0, ρ0, Same.refl _, S0, q0⟩, ?_⟩
  rintro m σ H ⟨G, ρ, e0, S, q⟩
  cases m with
  | zero => exact q.elim
  | succ m =>
    refine tD.stepS S q fun v H1 G1 ρ1 x e1 S1 r1 q1 => ?_
    have r1 : x = v := r1
    subst r1
    cases x with
    | true =>
      rw [if_pos rfl] at q1 ⊢
      refine ⟨fun σ H => ∃ G ρ, Same G0 G ∧ StOk F io G Fr H σ ρ ∧ PostS F io W Fr G D (whileL t d m ρ), fun σ' H' h => ⟨m, Nat.lt_succ_self m, h⟩, ?_⟩
      refine ⟨G1, Fr, ρ1, S1, ?_⟩
      cases ed : d ρ1 with
      | nx ρ2 =>
        rw [ed] at q1
        exact fun σ2 G2 H2 e2 S2 => ⟨G2, ρ2, (e0.trans e1).trans e2, S2, PostS.gle e2 q1⟩
      | rt p ρ2 => rw [ed] at q1; exact q1
      | exc c as ρ2 => rw [ed] at q1; exact q1
      | stuck => rw [ed] at q1; exact q1
    | false =>
      rw [if_neg Bool.false_ne_true] at q1 ⊢
      exact PostS.next q1 S1

/-! ### for -/
def forL (g : Tg) (d : DS) : List PV → DS
  | [], ρ => .nx ρ
  | p :: ps, ρ => match g.set p ρ with
    | some ρ' => (d ρ').thn (forL g d ps)
    | none => .stuck
/-- what is walked yields these values, turn by turn; it stands while what stands still stands -/
structure Yields (F : Fx) (J : It) (G0 : Hp) (ps : List PV) : Prop where
  go : ∀ (i : Nat) (G H : Hp), i < ps.length → Same G0 G → Same G H → J.go i H
  yld : ∀ (i : Nat) (G H H' : Hp) (v : V) (p : PV), ps[i]? = some p → Same G0 G → Same G H → J.yld i H v H' → ∃ G', Grow G H G' H' ∧ Rep F G' p v
  stop : ∀ (G H : Hp), Same G0 G → Same G H → J.stop ps.length H
abbrev RY (F : Fx) : Hp → List PV → It → Prop := fun G ps J => Yields F J G ps
def tI (F : Fx) (io : Option Addr) (W : WX) (d : DD (List PV)) : TI := tD (RY F) F io W d
theorem _root_.L2.PI.imp {X : Cx} {tg iter : Expr} {t t' : TI} (h : PI X tg iter t) (i : ∀ σ H R, t' σ H R → t σ H R) : PI X tg iter t' := ⟨fun pins s σ H R I w => h.run pins s σ H R I (i σ H R w)⟩
def sFor (g : Tg) (di : DD (List PV)) (d : DS) : DS := fun ρ => (di ρ).toOut fun ps ρ => forL g d ps ρ
theorem st_for {iter tg : Expr} {t : TG} {g : Tg} {di : DD (List PV)} {d : DS} (hp : PassesOwn (model X.prog X.w) X.A X.env X.xe) (hc : X.calm = true) (hi : PI X tg iter (tI F io W di)) (hg : PG X tg t) (ht : TgOk F io t g) (hb : PSs X body (tS F io W d))
    (hs : ∀ x, foldedSetIterable iter X.env x = pure x := by intro _; rfl) : PS X (.For tg iter body [] pos) (tS F io W (sFor g di d)) := by
  refine (ps_for hp hc hi hg hb hs).imp fun D σ H ⟨G0, Fr, ρ0, S0, q0⟩ => ?_
  refine tD.stepS (k := fun ps ρ => forL g d ps ρ) S0 q0 fun J H1 G1 ρ1 ps e1 S1 Y q1 => ?_
  refine ⟨fun i m σ H => m = ps.length - i ∧ i ≤ ps.length ∧ ∃ G ρ, Same G1 G ∧ StOk F io G Fr H σ ρ ∧ PostS F io W Fr G D (forL g d (ps.drop i) ρ), ⟨ps.length, by simp, Nat.zero_le _, G1, ρ1, Same.refl _, S1, q1⟩, ?_⟩
  rintro i m σ2 H2 ⟨rfl, hi, G2, ρ2, e2, S2, q2⟩
  by_cases hlt : i < ps.length
  · refine .inr ⟨Y.go i G2 H2 hlt e2 S2.sub, fun σ H => i + 1 ≤ ps.length ∧ ∃ G ρ, Same G1 G ∧ StOk F io G Fr H σ ρ ∧ PostS F io W Fr G D (forL g d (ps.drop (i + 1)) ρ), fun σ' H' h => ⟨ps.length - (i + 1), by omega, rfl, h.1, h.2⟩, fun x H' y => ?_⟩
    obtain ⟨G3, g3, r3⟩ := Y.yld i G2 H2 H' x ps[i] (by simp [hlt]) e2 S2.sub y
    have e3 := g3.gle
    have S3 := S2.grow g3
    rw [List.drop_eq_getElem_cons hlt] at q2
    have q2 : PostS F io W Fr G2 D (match g.set ps[i] ρ2 with
      | some ρ' => (d ρ').thn (forL g d (ps.drop (i + 1)))
      | none => .stuck) := q2
    cases eg : g.set ps[i] ρ2 with
    | none => rw [eg] at q2; exact q2.elim
    | some ρ3 =>
      rw [eg] at q2
      refine ht G3 Fr H' σ2 ρ2 ρ3 ps[i] x _ S3 r3 eg fun σ' S4 _ => ?_
      refine ⟨G3, Fr, ρ3, S4, ?_⟩
      have q2 : PostS F io W Fr G2 D ((d ρ3).thn (forL g d (ps.drop (i + 1)))) := q2
      cases ed : d ρ3 with
      | nx ρ5 =>
        rw [ed] at q2
        exact fun σ5 G5 H5 e5 S5 => ⟨hlt, G5, ρ5, (e2.trans e3).trans e5, S5, PostS.gle (e3.trans e5) q2⟩
      | rt p ρ5 => rw [ed] at q2; exact fun v σ5 G5 H5 e5 => q2 v σ5 G5 H5 (e3.trans e5)
      | exc c as ρ5 => rw [ed] at q2; exact fun v σ5 G5 H5 e5 => q2 v σ5 G5 H5 (e3.trans e5)
      | stuck => rw [ed] at q2; exact q2
  · have e : i = ps.length := by omega
    subst e
    refine .inl ⟨Y.stop G2 H2 e2 S2.sub, ?_⟩
    rw [List.drop_length] at q2
    exact PostS.next q2 S2
/-- the items of a list or tuple -/
def dItems (d : DE) : DD (List PV) := fun ρ => (d ρ).bind fun x ρ => match x with
  | .lst xs => .ok xs ρ
  | .tup xs => .ok xs ρ
  | _ => .stuck
def dItL (d : DE) : DD (List PV) := fun ρ => (d ρ).bind fun x ρ => match x with
  | .lst xs => .ok xs ρ
  | _ => .stuck
def dItT (d : DE) : DD (List PV) := fun ρ => (d ρ).bind fun x ρ => match x with
  | .tup xs => .ok xs ρ
  | _ => .stuck
theorem yields_list {G0 : Hp} {a : Addr} {ps : List PV} {vs : List V} (h : G0 a = some (.lst vs)) (r : Reps F G0 ps vs) : Yields F (Itl F.K a) G0 ps where
  go := fun i G H hi e s => ⟨vs, vs[i]'(by rw [← r.length]; exact hi), .of (s _ _ (e _ _ h)), by simp⟩
  yld := fun i G H H' v p hp e s y => by
    obtain ⟨rfl, y⟩ := y
    obtain ⟨v', h1, h2⟩ := r.get hp
    have := y vs (.of (s _ _ (e _ _ h)))
    rw [h1] at this
    cases this
    exact ⟨G, Grow.refl s, h2.same e⟩
  stop := fun G H e s => ⟨vs, .of (s _ _ (e _ _ h)), by rw [r.length]; exact Nat.le_refl _⟩
theorem yields_tup {G0 : Hp} {a : Addr} {ps : List PV} {vs : List V} (h : SqT F.K G0 a vs) (r : Reps F G0 ps vs) : Yields F (Itt F.K a) G0 ps where
  go := fun i G H hi e s => ⟨vs, vs[i]'(by rw [← r.length]; exact hi), SqT.same (e.trans s) h, by simp⟩
  yld := fun i G H H' v p hp e s y => by
    obtain ⟨rfl, y⟩ := y
    obtain ⟨v', h1, h2⟩ := r.get hp
    have := y vs (SqT.same (e.trans s) h)
    rw [h1] at this
    cases this
    exact ⟨G, Grow.refl s, h2.same e⟩
  stop := fun G H e s => ⟨vs, SqT.same (e.trans s) h, by rw [r.length]; exact Nat.le_refl _⟩
theorem qi_list {tg : Expr} {d : DE} (hK : F.K = X.K) (h : PE X a (tE F io W d)) : PI X tg a (tI F io W (dItL d)) := by
  refine (pi_list h).imp fun σ H R ⟨G, Fr, ρ, S, q⟩ => ?_
  refine tD.step S q fun v H1 G1 ρ1 x e1 S1 r1 q1 => ?_
  cases r1 <;> first | exact q1.elim | skip
  case lst ps a vs h r => exact ⟨a, rfl, ⟨vs, .of (S1.sub _ _ h)⟩, q1 _ G1 H1 (Same.refl _) S1 (by rw [← hK]; exact yields_list h r)⟩
theorem qi_tup {tg : Expr} {d : DE} (hK : F.K = X.K) (h : PE X a (tE F io W d)) : PI X tg a (tI F io W (dItT d)) := by
  refine (pi_tup h).imp fun σ H R ⟨G, Fr, ρ, S, q⟩ => ?_
  refine tD.step S q fun v H1 G1 ρ1 x e1 S1 r1 q1 => ?_
  cases r1 <;> first | exact q1.elim | skip
  case tup ps a vs h r => exact ⟨a, rfl, ⟨vs, by rw [← hK]; exact SqT.same S1.sub h⟩, q1 _ G1 H1 (Same.refl _) S1 (by rw [← hK]; exact yields_tup h r)⟩
/-- range -/
def rangeL (lo hi : Int) : List PV := (List.range (hi - lo).toNat).map fun i => PV.int (lo + (i : Nat))
def dRange1 (d : DD (List PV)) : DD (List PV) := fun ρ => (d ρ).bind fun xs ρ => match xs with
  | [.int j] => if -(2 ^ 62) ≤ j ∧ j < 2 ^ 62 then .ok (rangeL 0 j) ρ else .stuck
  | _ => .stuck
def dRange2 (d : DD (List PV)) : DD (List PV) := fun ρ => (d ρ).bind fun xs ρ => match xs with
  | [.int i, .int j] => if -(2 ^ 62) ≤ i ∧ i < 2 ^ 62 ∧ -(2 ^ 62) ≤ j ∧ j < 2 ^ 62 then .ok (rangeL i j) ρ else .stuck
  | _ => .stuck
theorem rangeL_length (lo hi : Int) : (rangeL lo hi).length = (hi - lo).toNat := by simp [rangeL]
theorem rangeL_get {lo hi : Int} {i : Nat} {p : PV} (h : (rangeL lo hi)[i]? = some p) : p = .int (lo + i) := by
  unfold rangeL at h
  rw [List.getElem?_map] at h
  by_cases l : i < (hi - lo).toNat
  · rw [List.getElem?_range l] at h
    cases h
    rfl
  · rw [List.getElem?_eq_none (by simp; omega)] at h
    cases h
theorem yields_range {G0 : Hp} {lo hi : Int} : Yields F (Itr lo (hi - lo).toNat) G0 (rangeL lo hi) where
  go := fun i G H hi e s => by rw [rangeL_length] at hi; exact hi
  yld := fun i G H H' v p hp e s y => by
    obtain ⟨rfl, rfl⟩ := y
    rw [rangeL_get hp]
    exact ⟨G, Grow.refl s, .int _⟩
  stop := fun G H e s => by rw [rangeL_length]; exact Nat.le_refl _
theorem qi_range1 {tg : Expr} {d : DD (List PV)} {p : Pos} (hg : Gl X "range") (hm : X.mg "range" = none) (ha : PA X [a] (tA F io W d)) (hs : starEach [a] X.env = [(false, eval a X.env)] := by rfl) : PI X tg (.Call (.Name "range" p) [a] [] pos) (tI F io W (dRange1 d)) := by
  refine (pi_range1 hg hm ha hs).imp fun σ H R ⟨G, Fr, ρ, S, q⟩ => ?_
  refine tD.step S q fun vs H1 G1 ρ1 xs e1 S1 r1 q1 => ?_
  cases r1 with
  | nil => exact q1.elim
  | cons r rr =>
    cases rr with
    | cons => cases r <;> exact q1.elim
    | nil =>
      cases r <;> first | exact q1.elim | skip
      case int j =>
        have q1 : Post (RY F) F io W Fr G1 σ R (if -(2 ^ 62) ≤ j ∧ j < 2 ^ 62 then Res.ok (rangeL 0 j) ρ1 else .stuck) := q1
        by_cases l : -(2 ^ 62) ≤ j ∧ j < 2 ^ 62
        · rw [if_pos l] at q1
          have Y := yields_range (F := F) (G0 := G1) (lo := 0) (hi := j)
          rw [Int.sub_zero] at Y
          exact ⟨j, rfl, l.1, l.2, q1 _ G1 H1 (Same.refl _) S1 Y⟩
        · rw [if_neg l] at q1
          exact q1.elim
theorem qi_range2 {tg : Expr} {d : DD (List PV)} {p : Pos} (hg : Gl X "range") (hm : X.mg "range" = none) (ha : PA X [a, b] (tA F io W d)) (hs : starEach [a, b] X.env = [(false, eval a X.env), (false, eval b X.env)] := by rfl) (hs2 : starEach [b] X.env = [(false, eval b X.env)] := by rfl) :
    PI X tg (.Call (.Name "range" p) [a, b] [] pos) (tI F io W (dRange2 d)) := by
  refine (pi_range2 hg hm ha hs hs2).imp fun σ H R ⟨G, Fr, ρ, S, q⟩ => ?_
  refine tD.step S q fun vs H1 G1 ρ1 xs e1 S1 r1 q1 => ?_
  cases r1 with
  | nil => exact q1.elim
  | cons r rr =>
    cases rr with
    | nil => cases r <;> exact q1.elim
    | cons r2 rr =>
      cases rr with
      | cons => cases r <;> cases r2 <;> exact q1.elim
      | nil =>
        cases r <;> cases r2 <;> first | exact q1.elim | skip
        case int.int i j =>
          have q1 : Post (RY F) F io W Fr G1 σ R (if -(2 ^ 62) ≤ i ∧ i < 2 ^ 62 ∧ -(2 ^ 62) ≤ j ∧ j < 2 ^ 62 then Res.ok (rangeL i j) ρ1 else .stuck) := q1
          by_cases l : -(2 ^ 62) ≤ i ∧ i < 2 ^ 62 ∧ -(2 ^ 62) ≤ j ∧ j < 2 ^ 62
          · rw [if_pos l] at q1
            exact ⟨i, j, rfl, l, q1 _ G1 H1 (Same.refl _) S1 yields_range⟩
          · rw [if_neg l] at q1
            exact q1.elim
end

/-! ### a def's body -/
def runB (n : Nat) (d : DS) (ps : List PV) : FR := match d (ps.map (fun p => some (.val p)) ++ List.replicate (n - ps.length) none) with
  | .nx _ => .ok .non
  | .rt p _ => .ok p
  | .exc c as _ => .exc c as
  | .stuck => .stuck
theorem start_ok {F : Fx} {G H : Hp} {N : List Str} {ps : List PV} {vs : List V} (s : Same G H) (r : Reps F G ps vs) :
    StOk F none G (fun a => if (G a).isSome = true then none else H a) H (start N vs) (ps.map (fun p => some (.val p)) ++ List.replicate (N.length - ps.length) none) := by
  have no : ∀ (i : Nat) (sv : SV), (ps.map (fun p => some (SV.val p)) ++ List.replicate (N.length - ps.length) none)[i]? = some (some sv) → ∃ p, sv = .val p ∧ ps[i]? = some p := fun i sv e => by
    by_cases l : i < ps.length
    · rw [List.getElem?_append_left (by simpa using l), List.getElem?_map] at e
      cases q : ps[i]? with
      | none => rw [q] at e; cases e
      | some p => rw [q] at e; cases e; exact ⟨p, rfl, rfl⟩
    · rw [List.getElem?_append_right (by simpa using l), List.getElem?_replicate] at e
      split at e <;> cases e
  refine ⟨s, fun a o e => ?_, fun a o e => by simp [e], ?_, fun i p e => ?_, fun i c e => ?_, fun i j c d a e => ?_, fun a e => (by cases e), fun i c e => ?_, fun i j c d e => ?_⟩
  · have e : (if (G a).isSome = true then none else H a) = some o := e
    split at e
    · cases e
    · exact e
  · unfold L2.start
    simp [r.length]
  · obtain ⟨p', e1, e2⟩ := no i _ e
    cases e1
    obtain ⟨v, h1, h2⟩ := r.get e2
    refine ⟨v, ?_, h2⟩
    unfold L2.start
    rw [List.getElem?_append_left (by simpa using lt_of_slot (l := vs.map some) (i := i) (y := v) (by rw [List.getElem?_map, h1]; rfl)), List.getElem?_map, h1]
    rfl
  · obtain ⟨p', e1, e2⟩ := no i _ e; cases e1
  · obtain ⟨p', e1, e2⟩ := no i _ e; cases e1
  · obtain ⟨p', e1, e2⟩ := no i _ e; cases e1
  · obtain ⟨p', e1, e2⟩ := no i _ e; cases e1
theorem end_grow {F : Fx} {io : Option Addr} {G H G' H' : Hp} {σ : L2.St} {ρ : Rho} (s : Same G H) (e : Same G G') (S : StOk F io G' (fun a => if (G a).isSome = true then none else H a) H' σ ρ) : Grow G H G' H' := by
  have dis : ∀ a o, G' a = some o → (if (G a).isSome = true then none else H a) = none := S.dis
  have fsub : ∀ a o, (if (G a).isSome = true then none else H a) = some o → H' a = some o := S.fsub
  refine ⟨fun a o h => ?_, e, S.sub, fun a o h h0 => ?_⟩
  · cases q : G a with
    | none => exact fsub a o (by simp [q, h])
    | some u =>
      have h1 := s a u q
      rw [h] at h1
      cases h1
      exact S.sub a _ (e a _ q)
  · have h1 := dis a o h
    rw [if_neg (by simp [h0])] at h1
    exact h1
/-- THE RULE of a def that changes nothing: what its body means -/
theorem fn_pure {P : Program} {w : World} {K : PySem.W.Frag} {mg : Str → Option Value} {base : Heap} {x qual : Str} {params : Arguments} {body : List Stmt} {scope : Scope} {f : Addr} {fd : FuncData} {N ps : List Str} {k : Nat} {F : Fx} {d : DS}
    (FD : FunD K x qual params body scope [] [] f fd) (S : FnScope N ps scope)
    (h : ∀ (cdv : Value) (A : Around) (outer : List Env) (s : Shared) (H : Hp) (E : XK), Room k (A.deeper (envOfC qual scope s.heap.objs.size f cdv)) →
      PSs (cxOf (L2.CX P w) P w K mg base N qual scope f cdv A outer s H E) body (tS F none (fun cls d _ H => E cls d H) d)) :
    FnOk P w K mg base (L2.CX P w) (k + 1) f fd ps (spP F ps.length (runB N.length d)) := by
  refine FD.ok S (fun vs H Q E q => q.1) fun cdv A outer s H vs Q E hr q => ⟨_, h cdv A outer s H E hr, ?_⟩
  obtain ⟨hl, G, qs, sub, r, q⟩ := q
  refine ⟨G, _, _, start_ok sub r, ?_⟩
  unfold runB at q
  cases ed : d (qs.map (fun p => some (.val p)) ++ List.replicate (N.length - qs.length) none) with
  | nx ρ =>
    rw [ed] at q
    exact fun σ' G' H' e S' => q .non G' H' (end_grow sub e S') .non
  | rt p ρ =>
    rw [ed] at q
    exact fun v σ' G' H' e S' r' => q v G' H' (end_grow sub e S') r'
  | exc c as ρ =>
    rw [ed] at q
    exact fun dd σ' G' H' e S' x' => q dd G' H' (end_grow sub e S') x'
  | stuck => rw [ed] at q; exact q
end Pl

set_option maxHeartbeats 4000000
/-! P4: list comprehensions, built-in functions, errors raised, the module's names. -/
namespace Pl
open PySem PySem.Spec PyProof.Rows L2

/-! ### comprehensions -/
def valsOf (ρ : Rho) : Rho := ρ.map fun x => match x with
  | some (.val p) => some (.val p)
  | _ => none
def wipeR (ρ : Rho) : List Nat → Rho
  | [] => ρ
  | v :: vs => (wipeR ρ vs).set v none
def compL (g : Tg) (t : DD Bool) (d : DE) (ρ : Rho) : List PV → Option (List PV)
  | [] => some []
  | p :: ps => match g.set p ρ with
    | none => none
    | some ρ1 => match t ρ1 with
      | .ok true ρ2 => (match d ρ2 with
        | .ok y _ => (compL g t d ρ ps).map (y :: ·)
        | _ => none)
      | .ok false _ => compL g t d ρ ps
      | _ => none
def dComp (vs : List Nat) (g : Tg) (di : DD (List PV)) (t : DD Bool) (d : DE) : DE := fun ρ => (di ρ).bind fun ps ρ => match compL g t d (wipeR (valsOf ρ) vs) ps with
  | some ys => if ps.length ≤ LIM then .ok (.lst ys) ρ else .stuck
  | none => .stuck
abbrev W0 : WX := fun _ _ _ _ => False
section
variable {F : Fx} {io : Option Addr} {W : WX} {Fr G G' H H' : Hp} {σ : L2.St} {ρ : Rho}
/-- what is tracked and does not stand still -/
def rest' (G H : Hp) : Hp := fun a => if (G a).isSome = true then none else H a
theorem vals_slot {i : Nat} {sv : SV} (e : (valsOf ρ)[i]? = some (some sv)) : ∃ p, sv = .val p ∧ ρ[i]? = some (some (.val p)) := by
  unfold valsOf at e
  rw [List.getElem?_map] at e
  cases q : ρ[i]? with
  | none => rw [q] at e; cases e
  | some o =>
    rw [q] at e
    cases o with
    | none => cases e
    | some s =>
      cases s with
      | val p => cases e; exact ⟨p, rfl, rfl⟩
      | own p => cases e
      | inp p => cases e
theorem StOk.vals (S : StOk F io G Fr H σ ρ) : StOk F none G (rest' G H) H σ (valsOf ρ) := by
  refine ⟨S.sub, fun a o e => ?_, fun a o e => by simp [rest', e], by simpa [valsOf] using S.len, fun i p e => ?_, fun i c e => ?_, fun i j c d a e => ?_, fun a e => (by cases e), fun i c e => ?_, fun i j c d e => ?_⟩
  · have e : (if (G a).isSome = true then none else H a) = some o := e
    split at e
    · cases e
    · exact e
  · obtain ⟨q, h1, h2⟩ := vals_slot e
    cases h1
    exact S.val i p h2
  · obtain ⟨q, h1, h2⟩ := vals_slot e; cases h1
  · obtain ⟨q, h1, h2⟩ := vals_slot e; cases h1
  · obtain ⟨q, h1, h2⟩ := vals_slot e; cases h1
  · obtain ⟨q, h1, h2⟩ := vals_slot e; cases h1
theorem StOk.wipes (S : StOk F io G Fr H σ ρ) : ∀ vs : List Nat, StOk F io G Fr H (wipe σ vs) (wipeR ρ vs)
  | [] => S
  | v :: vs => (StOk.wipes S vs).wipe1
theorem rest_grow (s : Same G H) (e : Same G G') (S : StOk F io G' (rest' G H) H' σ ρ) : Grow G H G' H' := end_grow s e S
theorem wipe_wipe (vs : List Nat) (σ : L2.St) : ∀ us : List Nat, (∀ i ∈ us, i ∈ vs) → wipe (wipe σ us) vs = wipe σ vs
  | [], _ => rfl
  | u :: us, h => by
    show wipe ((wipe σ us).set u none) vs = wipe σ vs
    rw [wipe_set (h u List.mem_cons_self)]
    exact wipe_wipe vs σ us fun i hi => h i (List.mem_cons_of_mem _ hi)
/-- an object that nobody names is changed -/
theorem StOk.upd_at {a : Addr} {o : HO} (S : StOk F io G Fr H σ ρ) (nG : G a = none) (nF : Fr a = none) (nI : io ≠ some a) (no : ∀ (j : Nat) (d : PV), ρ[j]? = some (some (SV.own d)) → σ[j]? ≠ some (some (V.ref a))) : StOk F io G Fr (upd H a o) σ ρ := by
  have k : ∀ b u, b ≠ a → H b = some u → upd H a o b = some u := fun b u n h => by rw [upd_ne n]; exact h
  refine ⟨fun b u h => k b u (ne_of_none h nG) (S.sub b u h), fun b u h => k b u (ne_of_none h nF) (S.fsub b u h), S.dis, S.len, S.val, fun i c e => ?_, S.sep, fun b e => ?_, fun i c e => ?_, S.one⟩
  · obtain ⟨b, h1, h2, h3, h4, h5⟩ := S.own i c e
    refine ⟨b, h1, h2, h3, h4.same (Same.refl _) fun u hu => k b u (fun z => ?_) hu, h5⟩
    subst z
    exact no i c e h1
  · obtain ⟨h1, h2, u, h3⟩ := S.iot b e
    exact ⟨h1, h2, u, k b u (fun z => nI (by rw [← z]; exact e)) h3⟩
  · obtain ⟨b, h1, h2, h3⟩ := S.inp i c e
    exact ⟨b, h1, h2, h3.same (Same.refl _) fun u hu => k b u (fun z => nI (by rw [← z]; exact h1)) hu⟩
theorem compL_len {g : Tg} {t : DD Bool} {d : DE} {ρ : Rho} : ∀ {ps ys : List PV}, compL g t d ρ ps = some ys → ys.length ≤ ps.length
  | [], ys, h => by cases h; exact Nat.le_refl _
  | p :: ps, ys, h => by
    unfold compL at h
    cases e : g.set p ρ with
    | none => rw [e] at h; cases h
    | some ρ1 =>
      rw [e] at h
      dsimp only at h
      split at h
      · split at h
        · rename_i y _ _
          cases e2 : compL g t d ρ ps with
          | none => rw [e2] at h; cases h
          | some zs =>
            rw [e2] at h
            cases h
            exact Nat.succ_le_succ (compL_len e2)
        · cases h
      · exact Nat.le_succ_of_le (compL_len h)
      · cases h
end
section
variable {X : Cx} {F : Fx} {io : Option Addr} {W : WX}
theorem comp_step {wi : TI} {tg : TG} {g : Tg} {di : DD (List PV)} {t : DD Bool} {d : DE} {vs : List Nat} {σ : L2.St} {H : Hp} {Q : VK} (hw : ∀ σ H R, tI F io W di σ H R → wi σ H R) (ht : TgOk F none tg g) (hv : ∀ i ∈ g.slots, i ∈ vs)
    (h : tE F io W (dComp vs g di t d) σ H Q) : tLc wi tg (tT F none W0 t) (tE F none W0 d) vs σ H Q := by
  obtain ⟨G0, Fr, ρ0, S0, q0⟩ := h
  refine hw σ H _ (tD.step S0 q0 fun J H1 G1 ρ1 ps e1 S1 Y q1 => ?_)
  intro D nD
  have q1 : Post (Rep F) F io W Fr G1 σ Q (match compL g t d (wipeR (valsOf ρ1) vs) ps with
    | some ys => if ps.length ≤ LIM then .ok (.lst ys) ρ1 else .stuck
    | none => .stuck) := q1
  cases ec : compL g t d (wipeR (valsOf ρ1) vs) ps with
  | none => rw [ec] at q1; exact q1.elim
  | some ys =>
    rw [ec] at q1
    have q1 : Post (Rep F) F io W Fr G1 σ Q (if ps.length ≤ LIM then .ok (.lst ys) ρ1 else .stuck) := q1
    by_cases hl : ps.length ≤ LIM
    · rw [if_pos hl] at q1
      have nF : Fr D = none := S1.fsub.free nD
      have nI : io ≠ some D := fun e => by
        obtain ⟨_, _, o, h⟩ := S1.iot D e
        rw [nD] at h
        cases h
      have no : ∀ (j : Nat) (c : PV), ρ1[j]? = some (some (SV.own c)) → σ[j]? ≠ some (some (V.ref D)) := fun j c e h => by
        obtain ⟨b, h1, _, _, h4, _⟩ := S1.own j c e
        rw [h] at h1
        cases h1
        obtain ⟨u, hu⟩ := h4.there
        rw [nD] at hu
        cases hu
      refine ⟨fun i m H => m = ps.length - i ∧ i ≤ ps.length ∧ ∃ G zs acc, Same G1 G ∧ StOk F io G Fr H σ ρ1 ∧ G D = none ∧ H D = some (.lst acc) ∧ Reps F G zs acc ∧ zs.length ≤ i ∧ (compL g t d (wipeR (valsOf ρ1) vs) (ps.drop i)).map (zs ++ ·) = some ys, ?_, ?_⟩
      · refine ⟨ps.length, by simp, Nat.zero_le _, G1, [], [], Same.refl _, S1.upd_at (S1.sub.free nD) nF nI no, S1.sub.free nD, upd_same, .nil, Nat.zero_le _, ?_⟩
        show (compL g t d (wipeR (valsOf ρ1) vs) ps).map _ = _
        rw [ec]
        rfl
      · rintro i m H2 ⟨rfl, hi, G2, zs, acc, e2, S2, nG, hD, ra, hz, em⟩
        by_cases hlt : i < ps.length
        · rw [List.drop_eq_getElem_cons hlt] at em
          refine .inr ⟨Y.go i G2 H2 hlt e2 S2.sub, fun H => i + 1 ≤ ps.length ∧ ∃ G zs acc, Same G1 G ∧ StOk F io G Fr H σ ρ1 ∧ G D = none ∧ H D = some (.lst acc) ∧ Reps F G zs acc ∧ zs.length ≤ i + 1 ∧ (compL g t d (wipeR (valsOf ρ1) vs) (ps.drop (i + 1))).map (zs ++ ·) = some ys, fun H' h => ⟨ps.length - (i + 1), by omega, rfl, h.1, h.2⟩, fun x H3 y => ?_⟩
          obtain ⟨G3, g3, r3⟩ := Y.yld i G2 H2 H3 x ps[i] (by simp [hlt]) e2 S2.sub y
          have S3 := S2.grow g3
          have nG3 : G3 D = none := g3.stays0 nG ⟨_, hD⟩
          have hD3 : H3 D = some (.lst acc) := g3.all _ _ hD
          unfold compL at em
          cases eg : g.set ps[i] (wipeR (valsOf ρ1) vs) with
          | none => rw [eg] at em; cases em
          | some ρ4 =>
            rw [eg] at em
            refine ht G3 _ H3 _ _ ρ4 ps[i] x _ (S3.vals.wipes vs) r3 eg fun σ4 S4 w4 => ⟨?_, ?_⟩
            · rw [w4 vs hv, wipe_wipe vs σ vs fun _ h => h]
            · refine ⟨G3, _, ρ4, S4, ?_⟩
              dsimp only at em
              cases et : t ρ4 with
              | exc c as ρ5 => rw [et] at em; cases em
              | stuck => rw [et] at em; cases em
              | ok k ρ5 =>
                rw [et] at em
                intro b G5 H5 e5 S5 rb
                have rb : k = b := rb
                subst rb
                have g5 := rest_grow S3.sub e5 S5
                have S6 := S3.grow g5
                have nG5 := g5.stays0 nG3 ⟨_, hD3⟩
                have hD5 := g5.all _ _ hD3
                cases k with
                | false =>
                  rw [if_neg Bool.false_ne_true]
                  exact ⟨hlt, G5, zs, acc, (e2.trans g3.gle).trans g5.gle, S6, nG5, hD5, (ra.same g3.gle).same g5.gle, Nat.le_succ_of_le hz, em⟩
                | true =>
                  rw [if_pos rfl]
                  refine ⟨G5, _, ρ5, S5, ?_⟩
                  dsimp only at em
                  cases ed : d ρ5 with
                  | exc c as ρ6 => rw [ed] at em; cases em
                  | stuck => rw [ed] at em; cases em
                  | ok z ρ6 =>
                    rw [ed] at em
                    intro u G7 H7 e7 S7 r7
                    have g7 : Grow G3 H3 G7 H7 := rest_grow S3.sub (e5.trans e7) S7
                    have nG7 := g7.stays0 nG3 ⟨_, hD3⟩
                    have hD7 := g7.all _ _ hD3
                    refine ⟨acc, hD7, ?_, hlt, G7, zs ++ [z], acc ++ [u], (e2.trans g3.gle).trans g7.gle, (S3.grow g7).upd_at nG7 nF nI no, nG7, upd_same, ((ra.same g3.gle).same g7.gle).append (.cons r7 .nil), ?_, ?_⟩
                    · rw [← ra.length]
                      have : LIM < sizeLine := by decide
                      omega
                    · rw [List.length_append]
                      exact Nat.succ_le_succ hz
                    · rw [← em]
                      cases compL g t d (wipeR (valsOf ρ1) vs) (ps.drop (i + 1)) with
                      | none => rfl
                      | some l => simp
        · have e : i = ps.length := by omega
          subst e
          refine .inl ⟨Y.stop G2 H2 e2 S2.sub, ?_⟩
          rw [List.drop_length] at em
          have em : some (zs ++ []) = some ys := em
          rw [List.append_nil] at em
          cases em
          -- the list stands still from now on
          have sD : Same G2 (upd G2 D (.lst acc)) := same_upd nG
          refine q1 (.ref D) (upd G2 D (.lst acc)) H2 (e2.trans sD) ?_ (.lst upd_same (ra.same sD))
          have g : StOk F io (upd G2 D (.lst acc)) Fr H2 σ ρ1 := by
            refine ⟨fun b o h => ?_, S2.fsub, fun b o h => ?_, S2.len, fun j p e => ?_, fun j c e => ?_, S2.sep, fun b e => ?_, fun j c e => ?_, S2.one⟩
            · by_cases z : b = D
              · subst z
                rw [upd_same] at h
                cases h
                exact hD
              · rw [upd_ne z] at h
                exact S2.sub b o h
            · by_cases z : b = D
              · subst z
                exact nF
              · rw [upd_ne z] at h
                exact S2.dis b o h
            · obtain ⟨v, h1, h2⟩ := S2.val j p e
              exact ⟨v, h1, h2.same sD⟩
            · obtain ⟨b, h1, h2, h3, h4, h5⟩ := S2.own j c e
              refine ⟨b, h1, ?_, h3, h4.same sD fun o h => h, h5⟩
              rw [upd_ne (fun z => no j c e (by rw [← z]; exact h1))]
              exact h2
            · obtain ⟨h1, h2, h3⟩ := S2.iot b e
              refine ⟨?_, h2, h3⟩
              rw [upd_ne (fun z => nI (by rw [← z]; exact e))]
              exact h1
            · obtain ⟨b, h1, h2, h3⟩ := S2.inp j c e
              exact ⟨b, h1, h2, h3.same sD fun o h => h⟩
          exact g
    · rw [if_neg hl] at q1
      exact q1.elim
theorem pp_comp {elt tg iter : Expr} {ifs : List Expr} {scope : Scope} {own : List (Str × Nat)} {pos : Pos} {tt : TG} {g : Tg} {di : DD (List PV)} {t : DD Bool} {d : DE} (hc : X.calm = true) (hN : X.N.Nodup) (hi : PI X tg iter (tI F io W di)) (ok : BlkOk X.N X.env.scope scope own)
    (ht : TgOk F none tt g) (hv : (g.slots.all fun i => (own.map (·.2)).contains i) = true)
    (hg : ∀ (s : Shared) (H : Hp) (C : Addr) (cl : List (Str × Addr)) (fp : List Addr), PG (X.blk s H scope (compEnvC scope cl C X.env) fp) tg tt)
    (hts : ∀ (s : Shared) (H : Hp) (C : Addr) (cl : List (Str × Addr)) (fp : List Addr), PTs (X.blk s H scope (compEnvC scope cl C X.env) fp) ifs (tT F none W0 t))
    (he : ∀ (s : Shared) (H : Hp) (C : Addr) (cl : List (Str × Addr)) (fp : List Addr), PE (X.blk s H scope (compEnvC scope cl C X.env) fp) elt (tE F none W0 d)) (hs : ∀ x, foldedSetIterable iter X.env x = pure x := by intro _; rfl) :
    PE X (.ListComp elt [⟨tg, iter, ifs, 0⟩] scope pos) (tE F io W (dComp (own.map (·.2)) g di t d)) :=
  (pe_lc hc hN hi ok hg hts he hs).imp fun σ H Q h => comp_step (fun _ _ _ z => z) ht (fun i m => by simpa using List.all_eq_true.mp hv i m) h
theorem st_setComp {i : Nat} {y : Str} {py : Pos} {elt tg iter : Expr} {ifs : List Expr} {scope : Scope} {own : List (Str × Nat)} {pos spos : Pos} {tt : TG} {g : Tg} {di : DD (List PV)} {t : DD Bool} {d : DE} (hc : X.calm = true) (hN : X.N.Nodup) (hy : X.N[i]? = some y) (hyl : X.env.scope.names.lookup y = some .local)
    (hsw : swapsWith (.ListComp elt [⟨tg, iter, ifs, 0⟩] scope pos) (some (.Name y py)) spos.line X.env = pure true) (hi : PI X tg iter (tI F io W di)) (ok : BlkOk X.N X.env.scope scope own) (ht : TgOk F none tt g) (hv : (g.slots.all fun i => (own.map (·.2)).contains i) = true)
    (hg : ∀ (s : Shared) (H : Hp) (C : Addr) (cl : List (Str × Addr)) (fp : List Addr), PG (X.blk s H scope (compEnvC scope cl C X.env) fp) tg tt)
    (hts : ∀ (s : Shared) (H : Hp) (C : Addr) (cl : List (Str × Addr)) (fp : List Addr), PTs (X.blk s H scope (compEnvC scope cl C X.env) fp) ifs (tT F none W0 t))
    (he : ∀ (s : Shared) (H : Hp) (C : Addr) (cl : List (Str × Addr)) (fp : List Addr), PE (X.blk s H scope (compEnvC scope cl C X.env) fp) elt (tE F none W0 d)) (hs : ∀ x, foldedSetIterable iter X.env x = pure x := by intro _; rfl) :
    PS X (.Assign [.Name y py] (.ListComp elt [⟨tg, iter, ifs, 0⟩] scope pos) spos) (tS F io W (sSet i (dComp (own.map (·.2)) g di t d))) :=
  (ps_setLc hc hN hy hyl hsw hi ok hg hts he hs).imp fun D σ H h => by
    have h2 := asg_step h
    exact comp_step (F := F) (io := io) (W := W) (fun _ _ _ z => z) ht (fun i m => by simpa using List.all_eq_true.mp hv i m) h2
def tyesD : DD Bool := fun ρ => .ok true ρ
theorem qts_nil : PTs X [] (tT F io W tyesD) := ⟨fun pins s σ H Q I ⟨G, Fr, ρ, S, q⟩ => pts_nil.run pins s σ H Q I (q.done S rfl)⟩
theorem qts_one {c : Expr} {t : DD Bool} (h : PT X c (tT F io W t)) : PTs X [c] (tT F io W t) := pts_one h

/-! ### built-in functions by name -/
def CalOk (F : Fx) (r : List V → Hp → VK → Prop) (f : List PV → Option PV) : Prop := ∀ (G H : Hp) (vs : List V) (xs : List PV) (z : PV) (Q : VK), Same G H → Reps F G xs vs → f xs = some z → (∀ v' G' H', Grow G H G' H' → Rep F G' z v' → Q v' H') → r vs H Q
def dFun (f : List PV → Option PV) (d : DD (List PV)) : DE := fun ρ => (d ρ).bind fun xs ρ => ofO (f xs) ρ
theorem fun_step {r : List V → Hp → VK → Prop} {f : List PV → Option PV} {d : DD (List PV)} {σ : L2.St} {H : Hp} {Q : VK} (hf : CalOk F r f) (h : tE F io W (dFun f d) σ H Q) : tCB r (tA F io W d) σ H Q := by
  obtain ⟨G, Fr, ρ, S, q⟩ := h
  refine tD.step S q fun vs H1 G1 ρ1 xs e1 S1 r1 q1 => ?_
  obtain ⟨z, hz, k⟩ := Post.ofO (γ := Unit) q1 S1
  exact hf G1 H1 vs xs z Q S1.sub r1 hz k
variable {x : Str} {p pos : Pos} {a b c e : Expr} {es : List Expr} {bid T : String} {r : List V → Hp → VK → Prop}
theorem pp_fun {f : List PV → Option PV} {d : DD (List PV)} (hc : CallR X (.builtin bid) r) (hf : CalOk F r f) (hm : X.mg x = none) (hv : bootBuiltins x = some (.builtin bid)) (hg : Gl X x) (ha : PA X (e :: es) (tA F io W d)) (hn : x ≠ "__name__" := by decide) (hdb : (x == ("__debug__" : Str)) = false := by decide)
    (h1 : starEach (e :: es) X.env = (false, eval e X.env) :: starEach es X.env := by rfl) (h2 : (backTo pos (starEach es X.env)).any (·.1) = false := by rfl) : PE X (.Call (.Name x p) (e :: es) [] pos) (tE F io W (dFun f d)) :=
  (pe_callB hc hg hm hv ha hn hdb h1 h2).imp fun σ H Q h => fun_step hf h
theorem pp_ty {f : List PV → Option PV} {d : DD (List PV)} (hc : CallR X (.type T) r) (hf : CalOk F r f) (hm : X.mg x = none) (hv : bootBuiltins x = some (.type T)) (hg : Gl X x) (ha : PA X (e :: es) (tA F io W d)) (hn : x ≠ "__name__" := by decide) (hdb : (x == ("__debug__" : Str)) = false := by decide)
    (h1 : starEach (e :: es) X.env = (false, eval e X.env) :: starEach es X.env := by rfl) (h2 : (backTo pos (starEach es X.env)).any (·.1) = false := by rfl) : PE X (.Call (.Name x p) (e :: es) [] pos) (tE F io W (dFun f d)) :=
  (pe_callTy hc hg hm hv ha hn hdb h1 h2).imp fun σ H Q h => fun_step hf h
def fLen : List PV → Option PV
  | [.lst xs] => some (.int xs.length)
  | [.tup xs] => some (.int xs.length)
  | [.scr ns] => some (.int ns.length)
  | [.str x] => if x.length ≤ LIM then some (.int x.length) else none
  | _ => none
def rLenA (K : PySem.W.Frag) : List V → Hp → VK → Prop := fun xs H Q => (∃ p ys, xs = [.ref p] ∧ (SqL K H p ys ∨ SqT K H p ys) ∧ Q (.int ys.length) H) ∨ (∃ x n, xs = [x] ∧ LenV K x H n ∧ Q (.int n) H)
theorem call_lenA : CallR X (.builtin "len") (rLenA X.K) := fun pins s σ H xs us Q I rx h => by
  rcases h with h | h
  · exact call_len_seq pins s σ H xs us Q I rx h
  · exact call_len pins s σ H xs us Q I rx h
theorem reps1 {G : Hp} {p : PV} {vs : List V} (r : Reps F G [p] vs) : ∃ v, vs = [v] ∧ Rep F G p v := by
  cases r with
  | cons h r => cases r; exact ⟨_, rfl, h⟩
theorem reps2 {G : Hp} {p q : PV} {vs : List V} (r : Reps F G [p, q] vs) : ∃ v u, vs = [v, u] ∧ Rep F G p v ∧ Rep F G q u := by
  cases r with
  | cons h r =>
    obtain ⟨u, rfl, h2⟩ := reps1 r
    exact ⟨_, _, rfl, h, h2⟩
theorem f_len (hK : F.K = X.K) : CalOk F (rLenA X.K) fLen := by
  intro G H vs xs z Q s rx e k
  unfold fLen at e
  split at e
  · obtain ⟨v, rfl, h⟩ := reps1 rx
    cases e
    cases h with
    | lst h r => exact .inl ⟨_, _, rfl, .inl (.of (s _ _ h)), by rw [← r.length]; exact k _ G H (Grow.refl s) (.int _)⟩
  · obtain ⟨v, rfl, h⟩ := reps1 rx
    cases e
    cases h with
    | tup h r => exact .inl ⟨_, _, rfl, .inr (by rw [← hK]; exact SqT.same s h), by rw [← r.length]; exact k _ G H (Grow.refl s) (.int _)⟩
  · obtain ⟨v, rfl, h⟩ := reps1 rx
    cases e
    cases h with
    | scr h => exact .inl ⟨_, _, rfl, .inl (by rw [← hK]; exact Same.seq s h), by rw [List.length_map]; exact k _ G H (Grow.refl s) (.int _)⟩
  · obtain ⟨v, rfl, h⟩ := reps1 rx
    obtain ⟨l, rfl⟩ := ite_some e
    cases h
    exact .inr ⟨_, _, rfl, ⟨lim_line l, rfl⟩, k _ G H (Grow.refl s) (.int _)⟩
  · cases e
def allBl : List PV → Option (List Bool)
  | [] => some []
  | .bl b :: ps => (allBl ps).map (b :: ·)
  | _ => none
def allInt : List PV → Option (List Int)
  | [] => some []
  | .int b :: ps => (allInt ps).map (b :: ·)
  | _ => none
theorem bls_of {G : Hp} : ∀ {ps : List PV} {vs : List V} {bs : List Bool}, Reps F G ps vs → allBl ps = some bs → vs = bs.map V.bl
  | _, _, _, .nil, e => by cases e; rfl
  | p :: ps, _, bs, .cons h r, e => by
    cases h <;> first | (exfalso; cases e; done) | skip
    case bl b =>
      unfold allBl at e
      cases q : allBl ps with
      | none => rw [q] at e; cases e
      | some l => rw [q] at e; cases e; rw [bls_of r q]; rfl
theorem ints_of {G : Hp} : ∀ {ps : List PV} {vs : List V} {bs : List Int}, Reps F G ps vs → allInt ps = some bs → vs = bs.map V.int
  | _, _, _, .nil, e => by cases e; rfl
  | p :: ps, _, bs, .cons h r, e => by
    cases h <;> first | (exfalso; cases e; done) | skip
    case int b =>
      unfold allInt at e
      cases q : allInt ps with
      | none => rw [q] at e; cases e
      | some l => rw [q] at e; cases e; rw [ints_of r q]; rfl
def fAll : List PV → Option PV
  | [.lst xs] => (allBl xs).map fun bs => .bl (bs.all id)
  | _ => none
def fAny : List PV → Option PV
  | [.lst xs] => (allBl xs).map fun bs => .bl (bs.any id)
  | _ => none
def fSum : List PV → Option PV
  | [.lst xs] => (allInt xs).map fun bs => .int bs.sum
  | _ => none
theorem f_all : CalOk F (rAll X.K) fAll := by
  intro G H vs xs z Q s rx e k
  unfold fAll at e
  split at e
  · obtain ⟨v, rfl, h⟩ := reps1 rx
    rename_i xs
    cases q : allBl xs with
    | none => rw [q] at e; cases e
    | some bs =>
      rw [q] at e
      cases e
      cases h with
      | lst h r => exact ⟨_, bs, rfl, .of (by rw [← bls_of r q]; exact s _ _ h), k _ G H (Grow.refl s) (.bl _)⟩
  · cases e
theorem f_any : CalOk F (rAny X.K) fAny := by
  intro G H vs xs z Q s rx e k
  unfold fAny at e
  split at e
  · obtain ⟨v, rfl, h⟩ := reps1 rx
    rename_i xs
    cases q : allBl xs with
    | none => rw [q] at e; cases e
    | some bs =>
      rw [q] at e
      cases e
      cases h with
      | lst h r => exact ⟨_, bs, rfl, .of (by rw [← bls_of r q]; exact s _ _ h), k _ G H (Grow.refl s) (.bl _)⟩
  · cases e
theorem f_sum : CalOk F (rSum X.K) fSum := by
  intro G H vs xs z Q s rx e k
  unfold fSum at e
  split at e
  · obtain ⟨v, rfl, h⟩ := reps1 rx
    rename_i xs
    cases q : allInt xs with
    | none => rw [q] at e; cases e
    | some bs =>
      rw [q] at e
      cases e
      cases h with
      | lst h r => exact ⟨_, bs, rfl, .of (by rw [← ints_of r q]; exact s _ _ h), k _ G H (Grow.refl s) (.int _)⟩
  · cases e
def fAbs : List PV → Option PV
  | [.int i] => some (.int (if i < 0 then -i else i))
  | _ => none
theorem f_abs : CalOk F (fun xs H Q => ∃ i, xs = [.int i] ∧ Q (.int (if i < 0 then -i else i)) H) fAbs := by
  intro G H vs xs z Q s rx e k
  unfold fAbs at e
  split at e
  · obtain ⟨v, rfl, h⟩ := reps1 rx
    cases e
    cases h
    exact ⟨_, rfl, k _ G H (Grow.refl s) (.int _)⟩
  · cases e
def fMax2 : List PV → Option PV
  | [.int i, .int j] => some (.int (if j > i then j else i))
  | _ => none
theorem f_max2 : CalOk F (fun xs H Q => ∃ i j, xs = [.int i, .int j] ∧ Q (.int (if j > i then j else i)) H) fMax2 := by
  intro G H vs xs z Q s rx e k
  unfold fMax2 at e
  split at e
  · obtain ⟨v, u, rfl, h, h2⟩ := reps2 rx
    cases e
    cases h
    cases h2
    exact ⟨_, _, rfl, k _ G H (Grow.refl s) (.int _)⟩
  · cases e
def fMin2 : List PV → Option PV
  | [.int i, .int j] => some (.int (if j < i then j else i))
  | _ => none
theorem f_min2 : CalOk F (fun xs H Q => ∃ i j, xs = [.int i, .int j] ∧ Q (.int (if j < i then j else i)) H) fMin2 := by
  intro G H vs xs z Q s rx e k
  unfold fMin2 at e
  split at e
  · obtain ⟨v, u, rfl, h, h2⟩ := reps2 rx
    cases e
    cases h
    cases h2
    exact ⟨_, _, rfl, k _ G H (Grow.refl s) (.int _)⟩
  · cases e
def fInt : List PV → Option PV
  | [.int i] => some (.int i)
  | [.bl k] => some (.int (if k then 1 else 0))
  | _ => none
theorem f_int : CalOk F (fun xs H Q => (∃ i, xs = [.int i] ∧ Q (.int i) H) ∨ ∃ k, xs = [.bl k] ∧ Q (.int (if k then 1 else 0)) H) fInt := by
  intro G H vs xs z Q s rx e k
  unfold fInt at e
  split at e
  · obtain ⟨v, rfl, h⟩ := reps1 rx
    cases e
    cases h
    exact .inl ⟨_, rfl, k _ G H (Grow.refl s) (.int _)⟩
  · obtain ⟨v, rfl, h⟩ := reps1 rx
    cases e
    cases h
    exact .inr ⟨_, rfl, k _ G H (Grow.refl s) (.int _)⟩
  · cases e
def fTuple : List PV → Option PV
  | [.lst xs] => some (.tup xs)
  | [.tup xs] => some (.tup xs)
  | _ => none
def fList : List PV → Option PV
  | [.scr ns] => some (.lst (ns.map PV.int))
  | [.lst xs] => some (.lst xs)
  | [.tup xs] => some (.lst xs)
  | _ => none
theorem f_tuple (hK : F.K = X.K) : CalOk F (fun xs H Q => ∃ p ys, xs = [.ref p] ∧ ((SqL X.K H p ys ∧ ∀ l, H l = none → Q (.ref l) (upd H l (.tup ys))) ∨ (SqT X.K H p ys ∧ Q (.ref p) H))) fTuple := by
  intro G H vs xs z Q s rx e k
  unfold fTuple at e
  split at e
  · obtain ⟨v, rfl, h⟩ := reps1 rx
    cases e
    cases h with
    | lst h r => exact ⟨_, _, rfl, .inl ⟨.of (s _ _ h), fun l n => k _ _ _ (Grow.new1 s n) (.tup (.inl (.inl upd_same)) (r.same (same_upd (s.free n))))⟩⟩
  · obtain ⟨v, rfl, h⟩ := reps1 rx
    cases e
    cases h with
    | tup h r => exact ⟨_, _, rfl, .inr ⟨by rw [← hK]; exact SqT.same s h, k _ G H (Grow.refl s) (.tup h r)⟩⟩
  · cases e
theorem reps_ints {G : Hp} : ∀ ns : List Int, Reps F G (ns.map PV.int) (ns.map V.int)
  | [] => .nil
  | n :: ns => .cons (.int n) (reps_ints ns)
theorem f_list (hK : F.K = X.K) : CalOk F (fun xs H Q => ∃ p ys, xs = [.ref p] ∧ (SqL X.K H p ys ∨ SqT X.K H p ys) ∧ ∀ l, H l = none → Q (.ref l) (upd H l (.lst ys))) fList := by
  intro G H vs xs z Q s rx e k
  unfold fList at e
  split at e
  · obtain ⟨v, rfl, h⟩ := reps1 rx
    cases e
    cases h with
    | scr h => exact ⟨_, _, rfl, .inl (by rw [← hK]; exact Same.seq s h), fun l n => k _ _ _ (Grow.new1 s n) (.lst upd_same (reps_ints _))⟩
  · obtain ⟨v, rfl, h⟩ := reps1 rx
    cases e
    cases h with
    | lst h r => exact ⟨_, _, rfl, .inl (.of (s _ _ h)), fun l n => k _ _ _ (Grow.new1 s n) (.lst upd_same (r.same (same_upd (s.free n))))⟩
  · obtain ⟨v, rfl, h⟩ := reps1 rx
    cases e
    cases h with
    | tup h r => exact ⟨_, _, rfl, .inr (by rw [← hK]; exact SqT.same s h), fun l n => k _ _ _ (Grow.new1 s n) (.lst upd_same (r.same (same_upd (s.free n))))⟩
  · cases e
/-- isinstance(x, T), T a built-in type -/
def tyP : PV → Option String
  | .non => some "NoneType"
  | .bl _ => some "bool"
  | .int _ => some "int"
  | .str _ => some "str"
  | .tup _ => some "tuple"
  | .lst _ => some "list"
  | _ => none
def isiT (t T : String) : Bool := t == T || (t == "bool" && T == "int")
def pIsi (T : String) (x : PV) : Option PV := (tyP x).map fun t => .bl (isiT t T)
def dIsi (T : String) (d : DE) : DE := fun ρ => (d ρ).bind fun x ρ => ofO (pIsi T x) ρ
theorem tyX_of {K : PySem.W.Frag} {G H : Hp} {q : PV} {v : V} {t : String} (hK : F.K = K) (s : Same G H) (r : Rep F G q v) (h : tyP q = some t) : TyX K H v (.type t) := by
  subst hK
  cases r <;> first | (exfalso; cases h; done) | skip
  case non => cases h; exact .base .non
  case bl b => cases h; exact .base (.bl _)
  case int i => cases h; exact .base (.int _)
  case str x => cases h; exact .base (.str _)
  case lst ps a vs h1 r1 => cases h; exact .base (.lst (s _ _ h1))
  case tup ps a vs h1 r1 =>
    cases h
    rcases h1 with (h1 | ⟨o, h1⟩) | ⟨o, its, n, h1, h2, _⟩
    · exact .base (.tup (s _ _ h1))
    · exact .fTuple (s _ _ h1)
    · exact .kTuple h1 h2
theorem pp_isi {T : String} {y : Str} {p2 : Pos} {d : DE} (hK : F.K = X.K) (hT : T = "int" ∨ T = "bool" ∨ T = "str" ∨ T = "tuple" ∨ T = "list" ∨ T = "dict") (hm : X.mg "isinstance" = none) (hg : Gl X "isinstance") (hm2 : X.mg y = none) (hv2 : bootBuiltins y = some (.type T)) (hg2 : Gl X y) (hn2 : y ≠ "__name__" := by decide) (hd2 : (y == ("__debug__" : Str)) = false := by decide)
    (ha : PE X a (tE F io W d)) (h1 : starEach [a, .Name y p2] X.env = (false, eval a X.env) :: starEach [.Name y p2] X.env := by rfl) (h2 : (backTo pos (starEach [.Name y p2] X.env)).any (·.1) = false := by rfl) (h3 : starEach [.Name y p2] X.env = (false, eval (.Name y p2) X.env) :: starEach [] X.env := by rfl) :
    PE X (.Call (.Name "isinstance" p) [a, .Name y p2] [] pos) (tE F io W (dIsi T d)) := by
  refine (pe_callB call_isi hg hm (by decide +kernel) (pa_cons ha (pa_cons (pe_bltn (v := .ty T) hg2 hm2 hv2 rfl hn2 hd2) pa_nil h3) h1) (by decide) (by decide) h1 h2).imp fun σ H Q ⟨G, Fr, ρ, S, q⟩ => ?_
  refine tD.step S q fun v H1 G1 ρ1 x e1 S1 r1 q1 => ?_
  obtain ⟨z, hz, k⟩ := Post.ofO (γ := Unit) q1 S1
  unfold pIsi at hz
  cases et : tyP x with
  | none => rw [et] at hz; cases hz
  | some t =>
    rw [et] at hz
    cases hz
    have e2 : t = "NoneType" ∨ t = "bool" ∨ t = "int" ∨ t = "str" ∨ t = "tuple" ∨ t = "list" := by
      cases x <;> first | (exfalso; cases et; done) | (cases et; simp)
    refine ⟨v, .ty T, .type t, .type T, isiT t T, rfl, .ty T, tyX_of hK S1.sub r1 et, ?_, k _ G1 H1 (Grow.refl S1.sub) (.bl _)⟩
    rcases e2 with rfl | rfl | rfl | rfl | rfl | rfl <;> rcases hT with rfl | rfl | rfl | rfl | rfl | rfl <;> exact kit_ty (by decide +kernel)
end
end Pl

set_option maxHeartbeats 4000000
/-! P5: the module's names and tables, errors raised, objects of one's own, texts, min of four. -/
namespace Pl
open PySem PySem.Spec PyProof.Rows L2

/-! ### min of four ints -/
section
variable {prog : Program} {w : World} {A : Around} {E : Value → Shared → Prop} {s : Shared}
theorem args_min4 (a b c d : Value) : argsOk "min" ⟨[a, b, c, d], []⟩ := by unfold argsOk; kernel_rfl
theorem min_four_of {a b c d : Value} {Q : Value → Shared → Prop}
    (h : wpAny (model prog w) A.in1 (pyIter (.ref s.heap.objs.size)) (fun it s₂ => ∃ I fp wr n P St bt, it = .ref I ∧ Walks prog w A.in1 I fp wr n P St ∧ St 0 s₂.heap ∧ (∀ b ∈ fp, b < s₂.heap.objs.size) ∧ 0 < n ∧ CmpOf prog w A.in1 .Lt P bt ∧
      ∀ v h' tk, P (argBest bt (n - 1)) v → (∀ b o, b ∉ wr → s₂.heap.get? b = some o → h'.get? b = some o) → Q v { s₂ with heap := h', toks := tk }) E
      { s with heap := s.heap.push { cls := .type "tuple", data := .seq #[a, b, c, d] } }) :
    wpAny (model prog w) A (call (.builtin "min") [a, b, c, d]) Q E s := by
  have nm : (toString "min" ++ toString ".loop" : String) = "min.loop" := by decide
  refine call_function_tree F.kind_min F.plain_min F.entry_min (args_min4 _ _ _ _) ?_
  show wpAny _ A.in1 (Builtin.Builtins.bindParams "min" ["key", "default"] 0 ⟨[], []⟩ >>= _) _ _ s
  refine wpAny_bind (wpAny_of_eq (show Builtin.Builtins.bindParams "min" ["key", "default"] 0 ⟨[], []⟩ = pure [none, none] from rfl) ?_)
  show wpAny _ A.in1 (newTuple [a, b, c, d] >>= _) _ _ s
  refine wpAny_bind (wpAny_newObj_type ?_)
  refine wpAny_bind (wpAny_mono h (fun it s₂ h₂ => ?_) fun _ _ e => e)
  obtain ⟨I, fp, wr, n, P, St, bt, rfl, W, hst, hfp, hn, hcmp, hQ⟩ := h₂
  refine wpAny_bind (wpAny_newObj_type ?_)
  have hSf : s₂.heap.objs.size ∉ fp := fun hm => Nat.lt_irrefl _ (hfp _ hm)
  rw [nm]
  refine wpAny_pure ⟨plainId_quiet F.plain_min_loop _, codeAny_min_loop_first W bt hcmp s₂.heap.objs.size hSf hn (W.frame _ _ _ hst fun b _ o e => Heap.get?_push_of_some _ e) (Heap.get?_push_size _ rfl) fun v h' tk hP hk => ?_⟩
  exact hQ v h' tk hP fun b o hbw e => hk b o hbw (Nat.ne_of_lt (Heap.lt_size e)) (Heap.get?_push_of_some _ e)
theorem min_four {a b c d : Int} {t u v y : Tok} {Q : Value → Shared → Prop} (hh : A.handled = none)
    (h : ∀ h' tk m z, (∀ c o, s.heap.get? c = some o → h'.get? c = some o) → m = min (min a b) (min c d) → Q (.int m z) { s with heap := h', toks := tk }) :
    wpAny (model prog w) A (call (.builtin "min") [.int a t, .int b u, .int c v, .int d y]) Q E s := by
  have hT : (s.heap.push { cls := .type "tuple", data := .seq #[.int a t, .int b u, .int c v, .int d y] }).IsTuple s.heap.objs.size (intItems #[(a, t), (b, u), (c, v), (d, y)]) := ⟨_, Heap.get?_push_size _ rfl, rfl, 0, by simp [intItems]⟩
  refine min_four_of (wpAny_pyIter_tuple hT ?_)
  have hsz : (s.heap.push { cls := .type "tuple", data := .seq #[.int a t, .int b u, .int c v, .int d y] }).objs.size = s.heap.objs.size + 1 := Heap.size_push ..
  refine ⟨_, [_, s.heap.objs.size], [_], _, _, _, _, rfl, Walks.tuple (A := A.in1) hh _ s.heap.objs.size (by rw [hsz]; exact Nat.ne_of_lt (Nat.lt_succ_self _)) (intItems #[(a, t), (b, u), (c, v), (d, y)]),
    ⟨⟨_, Heap.get?_push_size _ rfl, rfl, rfl⟩, hT.push _⟩, fun c hc => ?_, by simp [intItems], CmpOf.ints_lt (numAt #[(a, t), (b, u), (c, v), (d, y)]) (fun _ _ => intItems_at), fun r h' tk hP hk => ?_⟩
  · show c < ((s.heap.push _).push _).objs.size
    rw [Heap.size_push, hsz]
    rcases List.mem_cons.mp hc with rfl | hc
    · rw [hsz]; exact Nat.lt_succ_self _
    · rcases List.mem_cons.mp hc with rfl | hc
      · exact Nat.lt_succ_of_lt (Nat.lt_succ_self _)
      · cases hc
  · have hold : ∀ c o, s.heap.get? c = some o → h'.get? c = some o := fun c o e => by
      refine hk c o (fun hm => ?_) (Heap.get?_push_of_some _ (Heap.get?_push_of_some _ e))
      rcases List.mem_cons.mp hm with e1 | hm
      · have := Heap.lt_size e; rw [e1, hsz] at this; exact Nat.lt_irrefl _ (Nat.lt_of_succ_lt this)
      · cases hm
    have hP' : (intItems #[(a, t), (b, u), (c, v), (d, y)])[argBest (fun i j => decide (numAt #[(a, t), (b, u), (c, v), (d, y)] i < numAt #[(a, t), (b, u), (c, v), (d, y)] j)) 3]? = some r := by
      have hsz2 : (intItems #[(a, t), (b, u), (c, v), (d, y)]).size - 1 = 3 := by simp [intItems]
      rw [← hsz2]; exact hP
    obtain ⟨b1, b2⟩ := argBest_lt (numAt #[(a, t), (b, u), (c, v), (d, y)]) 3
    generalize argBest (fun i j => decide (numAt #[(a, t), (b, u), (c, v), (d, y)] i < numAt #[(a, t), (b, u), (c, v), (d, y)] j)) 3 = k at *
    have m0 := b2 0 (by omega)
    have m1 := b2 1 (by omega)
    have m2 := b2 2 (by omega)
    have m3 := b2 3 (by omega)
    have e0 : numAt #[(a, t), (b, u), (c, v), (d, y)] 0 = a := rfl
    have e1 : numAt #[(a, t), (b, u), (c, v), (d, y)] 1 = b := rfl
    have e2 : numAt #[(a, t), (b, u), (c, v), (d, y)] 2 = c := rfl
    have e3 : numAt #[(a, t), (b, u), (c, v), (d, y)] 3 = d := rfl
    rw [e0] at m0
    rw [e1] at m1
    rw [e2] at m2
    rw [e3] at m3
    rcases (show k = 0 ∨ k = 1 ∨ k = 2 ∨ k = 3 by omega) with rfl | rfl | rfl | rfl
    · rw [e0] at m1 m2 m3
      have hP' : some (Value.int a t) = some r := by simpa [intItems] using hP'
      cases hP'
      exact h h' tk a t hold (by omega)
    · rw [e1] at m0 m2 m3
      have hP' : some (Value.int b u) = some r := by simpa [intItems] using hP'
      cases hP'
      exact h h' tk b u hold (by omega)
    · rw [e2] at m0 m1 m3
      have hP' : some (Value.int c v) = some r := by simpa [intItems] using hP'
      cases hP'
      exact h h' tk c v hold (by omega)
    · rw [e3] at m0 m1 m2
      have hP' : some (Value.int d y) = some r := by simpa [intItems] using hP'
      cases hP'
      exact h h' tk d y hold (by omega)
end
section
variable {X : Cx} {F : Fx} {io : Option Addr} {W : WX}
theorem call_min4 (hc : X.calm = true) : CallR X (.builtin "min") (fun xs H Q => ∃ a b c d, xs = [.int a, .int b, .int c, .int d] ∧ Q (.int (min (min a b) (min c d))) H) := by
  intro pins s σ H xs us Q I r h
  obtain ⟨a, b, c, d, rfl, q⟩ := h
  cases r with
  | cons r1 r =>
    cases r with
    | cons r2 r =>
      cases r with
      | cons r3 r =>
        cases r with
        | cons r4 r =>
          cases r
          obtain ⟨t, rfl⟩ := r1
          obtain ⟨u, rfl⟩ := r2
          obtain ⟨v, rfl⟩ := r3
          obtain ⟨y, rfl⟩ := r4
          refine min_four (I.ok.hd hc) fun h' tk m z k e => ⟨_, H, I.kept k, ?_, q⟩
          subst e
          exact ⟨_, rfl⟩
def fMin4 : List PV → Option PV
  | [.int a, .int b, .int c, .int d] => some (.int (min (min a b) (min c d)))
  | _ => none
theorem f_min4 : CalOk F (fun xs H Q => ∃ a b c d, xs = [.int a, .int b, .int c, .int d] ∧ Q (.int (min (min a b) (min c d))) H) fMin4 := by
  intro G H vs xs z Q s rx e k
  unfold fMin4 at e
  split at e
  · cases e
    cases rx with
    | cons r1 r =>
      cases r with
      | cons r2 r =>
        obtain ⟨u, w, rfl, h2, h3⟩ := reps2 r
        cases r1
        cases r2
        cases h2
        cases h3
        exact ⟨_, _, _, _, rfl, k _ G H (Grow.refl s) (.int _)⟩
  · cases e
/-! ### join -/
def allStr : List PV → Option (List Str)
  | [] => some []
  | .str b :: ps => (allStr ps).map (b :: ·)
  | _ => none
theorem strs_of {G : Hp} : ∀ {ps : List PV} {vs : List V} {bs : List Str}, Reps F G ps vs → allStr ps = some bs → vs = bs.map V.str
  | _, _, _, .nil, e => by cases e; rfl
  | p :: ps, _, bs, .cons h r, e => by
    cases h <;> first | (exfalso; cases e; done) | skip
    case str b =>
      unfold allStr at e
      cases q : allStr ps with
      | none => rw [q] at e; cases e
      | some l => rw [q] at e; cases e; rw [strs_of r q]; rfl
def pJoin (x y : PV) : Option PV := match x, y with
  | .str a, .lst ys => (match allStr ys with
    | some bs => if (bs.map (·.length)).sum + bs.length * a.length ≤ LIM then some (.str (Txt.join a bs)) else none
    | none => none)
  | _, _ => none
/-- a method of one argument, by values -/
def MtOk (F : Fx) (r : V → List V → Hp → VK → Prop) (f : PV → PV → Option PV) : Prop := ∀ (G H : Hp) (v u : V) (x y z : PV) (Q : VK), Same G H → Rep F G x v → Rep F G y u → f x y = some z → (∀ v' G' H', Grow G H G' H' → Rep F G' z v' → Q v' H') → r v [u] H Q
def isStr : PV → Bool
  | .str _ => true
  | _ => false
def dBinS (f : PV → PV → Option PV) (da db : DE) : DE := fun ρ => (da ρ).bind fun x ρ => if isStr x = true then (db ρ).bind fun y ρ => ofO (f x y) ρ else .stuck
theorem m1_step {r : V → List V → Hp → VK → Prop} {f : PV → PV → Option PV} {da db : DE} (hm : MtOk F r f) {σ : L2.St} {H : Hp} {Q : VK} (h : tE F io W (dBinS f da db) σ H Q) : tM1 r (tE F io W da) (tE F io W db) σ H Q := by
  obtain ⟨G, Fr, ρ, S, q⟩ := h
  refine tD.step S q fun v H1 G1 ρ1 x e1 S1 r1 q1 => ?_
  by_cases hx : isStr x = true
  · rw [if_pos hx] at q1
    refine ⟨?_, tD.step S1 q1 fun u H2 G2 ρ2 y e2 S2 r2 q2 => ?_⟩
    · cases r1 <;> first | exact ⟨_, rfl⟩ | cases hx
    obtain ⟨z, hz, k⟩ := Post.ofO (γ := Unit) q2 S2
    exact hm G2 H2 v u x y z Q S2.sub (r1.same e2) r2 hz k
  · rw [if_neg hx] at q1
    exact q1.elim
variable {o e : Expr} {apos pos : Pos}
theorem pp_join {da db : DE} (ho : PE X o (tE F io W da)) (he : PE X e (tE F io W db)) (hs : starEach [e] X.env = [(false, eval e X.env)] := by rfl) (hbase : attributeBase o "join" X.env (eval o X.env) = eval o X.env := by rfl) (hline : (apos.endLine == pos.line) = true := by rfl) :
    PE X (.Call (.Attribute o "join" apos) [e] [] pos) (tE F io W (dBinS pJoin da db)) := by
  refine (pe_join ho he hs hbase hline).imp fun σ H Q h => m1_step (F := F) (io := io) (W := W) (f := pJoin) ?_ h
  intro G H v u x y z Q s rx ry e k
  cases rx <;> cases ry <;> first | (exfalso; cases e; done) | skip
  case str.lst a ys b us hy ry =>
    unfold pJoin at e
    dsimp only at e
    cases q : allStr ys with
    | none => rw [q] at e; cases e
    | some bs =>
      rw [q] at e
      obtain ⟨l, rfl⟩ := ite_some e
      exact ⟨_, _, bs, rfl, rfl, .inl (.of (by rw [← strs_of ry q]; exact s _ _ hy)), lim_line l, k _ G H (Grow.refl s) (.str _)⟩
end
end Pl

set_option maxHeartbeats 4000000
/-! P6: the module's names and tables, errors raised, objects of one's own, what is handed in to be changed. -/
namespace Pl
open PySem PySem.Spec PyProof.Rows L2

section
variable {X : Cx} {F : Fx} {io : Option Addr} {W : WX} {a b e : Expr} {es : List Expr} {pos : Pos}
/-! ### the module's constants -/
theorem pp_gint {x : Str} {i : Int} (hm : ∃ t, X.mg x = some (.int i t)) (hg : Gl X x) (hd : (x == ("__debug__" : Str)) = false := by decide) : PE X (.Name x pos) (tE F io W (dC (.int i))) := by
  obtain ⟨t, hm⟩ := hm
  exact pp_c (pe_glob (v := .int i) hg hm ⟨t, rfl⟩ hd) fun _ => .int i
theorem pp_gstr {x z : Str} (hm : ∃ t, X.mg x = some (.str z t)) (hg : Gl X x) (hd : (x == ("__debug__" : Str)) = false := by decide) : PE X (.Name x pos) (tE F io W (dC (.str z))) := by
  obtain ⟨t, hm⟩ := hm
  exact pp_c (pe_glob (v := .str z) hg hm ⟨t, rfl⟩ hd) fun _ => .str z
/-- a tuple of the module's top -/
theorem pp_gtup {x : Str} {a : Addr} {p : PV} (hm : X.mg x = some (.ref a)) (r : ∀ G, Rep F G p (.ref a)) (hg : Gl X x) (hd : (x == ("__debug__" : Str)) = false := by decide) : PE X (.Name x pos) (tE F io W (dC p)) :=
  pp_c (pe_glob (v := .ref a) hg hm rfl hd) r

/-! ### plain values that stand in the written part -/
mutual
def repB (K : PySem.W.Frag) : PV → Value → Bool
  | .non, .none => true
  | .bl b, .bool c => b == c
  | .int i, .int j _ => decide (i = j)
  | .str x, .str y _ => decide (x = y)
  | .tup ps, .ref a => (match K.lookup a with
    | some ⟨.type "tuple", _, .seq its _, _⟩ => decide (its.size ≤ sizeLine) && repsB K ps its.toList
    | _ => false)
  | _, _ => false
def repsB (K : PySem.W.Frag) : List PV → List Value → Bool
  | [], [] => true
  | p :: ps, u :: us => repB K p u && repsB K ps us
  | _, _ => false
end
mutual
theorem repB_ok : ∀ {p : PV} {u : Value}, repB F.K p u = true → ∃ v, RelV v u ∧ ∀ G, Rep F G p v
  | .non, .none, _ => ⟨.non, rfl, fun _ => .non⟩
  | .bl b, .bool c, h => by
    have e : b = c := eq_of_beq h
    subst e
    exact ⟨.bl b, rfl, fun _ => .bl b⟩
  | .int i, .int j t, h => by
    have e : i = j := of_decide_eq_true h
    subst e
    exact ⟨.int i, ⟨t, rfl⟩, fun _ => .int i⟩
  | .str x, .str y t, h => by
    have e : x = y := of_decide_eq_true h
    subst e
    exact ⟨.str x, ⟨t, rfl⟩, fun _ => .str x⟩
  | .tup ps, .ref a, h => by
    unfold repB at h
    split at h
    · rename_i dd its n sl q
      obtain ⟨h1, h2⟩ := Bool.and_eq_true_iff.mp h
      obtain ⟨vs, r, g⟩ := repsB_ok h2
      exact ⟨.ref a, rfl, fun G => .tup (.inr ⟨_, its, n, q, rfl, rfl, of_decide_eq_true h1, r⟩) (g G)⟩
    · cases h
  | .lst _, _, h => by cases h
  | .dct _ _, _, h => by cases h
  | .ins _ _, _, h => by cases h
  | .scr _, _, h => by cases h
theorem repsB_ok : ∀ {ps : List PV} {us : List Value}, repsB F.K ps us = true → ∃ vs, Vals vs us ∧ ∀ G, Reps F G ps vs
  | [], [], _ => ⟨[], .nil, fun _ => .nil⟩
  | p :: ps, u :: us, h => by
    obtain ⟨h1, h2⟩ := Bool.and_eq_true_iff.mp (show (repB F.K p u && repsB F.K ps us) = true from h)
    obtain ⟨v, r, g⟩ := repB_ok h1
    obtain ⟨vs, r2, g2⟩ := repsB_ok h2
    exact ⟨v :: vs, .cons r r2, fun G => .cons (g G) (g2 G)⟩
end
/-- a dict of the module's top with text keys -/
def tabEs (K : PySem.W.Frag) : List (Str × PV) → List DictEntry → Bool
  | [], [] => true
  | q :: qs, e :: es => (match e.key with
    | .str x _ => decide (x = q.1)
    | _ => false) && (repB K q.2 e.val && tabEs K qs es)
  | _, _ => false
def tabB (K : PySem.W.Frag) (a : Addr) (kvs : List (Str × PV)) : Bool := match K.lookup a with
  | some ⟨_, _, .dict es _, _⟩ => tabEs K kvs es.toList
  | _ => false
structure TabOk (F : Fx) (a : Addr) (kvs : List (Str × PV)) : Prop where
  kd : ∃ es n, KDict F.K F.w a es n
  vals : tabB F.K a kvs = true
theorem tab_find {z : Str} : ∀ {kvs : List (Str × PV)} {es : List DictEntry}, tabEs F.K kvs es = true → es.any (·.refKey) = false ∧ match kvs.lookup z with
    | some p => ∃ e v, es.find? (·.key.isStr z) = some e ∧ RelV v e.val ∧ ∀ G, Rep F G p v
    | none => es.find? (·.key.isStr z) = none
  | [], [], _ => ⟨rfl, rfl⟩
  | q :: qs, e :: es, h => by
    obtain ⟨h1, h2⟩ := Bool.and_eq_true_iff.mp (show ((match e.key with
      | .str x _ => decide (x = q.1)
      | _ => false) && (repB F.K q.2 e.val && tabEs F.K qs es)) = true from h)
    obtain ⟨h2, h3⟩ := Bool.and_eq_true_iff.mp h2
    obtain ⟨i1, i2⟩ := tab_find (z := z) h3
    split at h1
    · rename_i x t ek
      have ex : x = q.1 := of_decide_eq_true h1
      obtain ⟨v, r, g⟩ := repB_ok h2
      refine ⟨?_, ?_⟩
      · rw [List.any_cons, i1, Bool.or_false]
        show (match e.key with
          | .ref _ => true
          | _ => false) = false
        rw [ek]
      · by_cases c : z = q.1
        · have e1 : List.lookup z (q :: qs) = some q.2 := by
            show (match z == q.1 with
              | true => some q.2
              | false => List.lookup z qs) = some q.2
            rw [c, beq_self_eq_true]
          rw [e1]
          refine ⟨e, v, ?_, r, g⟩
          have : e.key.isStr z = true := by
            rw [ek, c, ← ex]
            simp [Value.isStr]
          rw [List.find?_cons, this]
        · have e1 : List.lookup z (q :: qs) = List.lookup z qs := by
            show (match z == q.1 with
              | true => some q.2
              | false => List.lookup z qs) = List.lookup z qs
            rw [beq_eq_false_iff_ne.mpr c]
          have e2 : e.key.isStr z = false := by
            rw [ek]
            simp [Value.isStr]
            intro y
            exact c (by rw [← y, ex])
          rw [e1, List.find?_cons, e2]
          exact i2
    · cases h1
  | [], _ :: _, h => by cases h
  | _ :: _, [], h => by cases h
theorem tab_get {a : Addr} {kvs : List (Str × PV)} (T : TabOk F a kvs) (z : Str) : match kvs.lookup z with
    | some p => ∃ u v, PySem.W.nsIn F.K a z = some (some u) ∧ RelV v u ∧ ∀ G, Rep F G p v
    | none => PySem.W.nsIn F.K a z = some none := by
  have h := T.vals
  unfold tabB at h
  split at h
  · rename_i oc dd es n sl q
    obtain ⟨i1, i2⟩ := tab_find (z := z) h
    unfold PySem.W.nsIn
    rw [q]
    cases c : kvs.lookup z with
    | none =>
      rw [c] at i2
      dsimp only at i2 ⊢
      rw [i2]
      dsimp only
      rw [i1]
      rfl
    | some p =>
      rw [c] at i2
      obtain ⟨e, v, h1, h2, h3⟩ := i2
      dsimp only
      rw [h1]
      exact ⟨_, v, rfl, h2, h3⟩
  · cases h
def pInT (kvs : List (Str × PV)) : PV → Option PV
  | .str z => some (.bl (kvs.lookup z).isSome)
  | _ => none
def pGetT (kvs : List (Str × PV)) : PV → Option PV
  | .str z => kvs.lookup z
  | _ => none
/-- x in TABLE -/
theorem pp_inT {x : Str} {p2 : Pos} {d : DE} {k : Addr} {kvs : List (Str × PV)} (hK : F.K = X.K) (hw : F.w = X.w) (T : TabOk F k kvs) (hm : X.mg x = some (.ref k)) (hg : Gl X x) (h : PE X a (tE F io W d)) (hd : (x == ("__debug__" : Str)) = false := by decide) :
    PE X (.Compare a [.In] [.Name x p2] pos) (tE F io W (dUn (pInT kvs) d)) := by
  obtain ⟨es, n, D⟩ := T.kd
  refine (pe_cmpR (op_in_kd (X := X) (d := k) (es := es) (n := n) (by rw [← hK, ← hw]; exact D)) h (pe_glob (v := .ref k) hg hm rfl hd) rfl).imp fun σ H Q ⟨G, Fr, ρ, S, q⟩ => ?_
  refine tD.step S q fun v H1 G1 ρ1 x e1 S1 r1 q1 => ?_
  obtain ⟨z, hz, kk⟩ := Post.ofO (γ := Unit) q1 S1
  cases r1 <;> first | (exfalso; cases hz; done) | skip
  case str y =>
    cases hz
    have g := tab_get T y
    cases c : kvs.lookup y with
    | none =>
      rw [c] at g
      refine ⟨y, none, rfl, rfl, by rw [← hK]; exact g, ?_⟩
      rw [c] at kk
      exact kk _ G1 H1 (Grow.refl S1.sub) (.bl _)
    | some p =>
      rw [c] at g
      obtain ⟨u, v, h1, h2, h3⟩ := g
      refine ⟨y, some u, rfl, rfl, by rw [← hK]; exact h1, ?_⟩
      rw [c] at kk
      exact kk _ G1 H1 (Grow.refl S1.sub) (.bl _)
def dGetT (kvs : List (Str × PV)) (d : DE) : DE := dUn (pGetT kvs) d
theorem pt_inT {x : Str} {p2 : Pos} {d : DE} {k : Addr} {kvs : List (Str × PV)} (hK : F.K = X.K) (hw : F.w = X.w) (T : TabOk F k kvs) (hm : X.mg x = some (.ref k)) (hg : Gl X x) (h : PE X a (tE F io W d)) (hd : (x == ("__debug__" : Str)) = false := by decide) :
    PT X (.Compare a [.In] [.Name x p2] pos) (tT F io W (dAsB (dUn (pInT kvs) d))) := by
  obtain ⟨es, n, D⟩ := T.kd
  refine (pt_cmpR (op_in_kd (X := X) (d := k) (es := es) (n := n) (by rw [← hK, ← hw]; exact D)) h (pe_glob (v := .ref k) hg hm rfl hd) rfl).imp fun σ H Q ⟨G, Fr, ρ, S, q⟩ => ?_
  have q : Post RB F io W Fr G σ Q (((d ρ).bind fun x ρ => ofO (pInT kvs x) ρ).bind fun x ρ => ofO (asB x) ρ) := q
  have eb : ((d ρ).bind fun x ρ => ofO (pInT kvs x) ρ).bind (fun x ρ => ofO (asB x) ρ) = (d ρ).bind fun x ρ => (ofO (pInT kvs x) ρ).bind fun x ρ => ofO (asB x) ρ := by cases d ρ <;> rfl
  rw [eb] at q
  refine tD.step S q fun v H1 G1 ρ1 x e1 S1 r1 q1 => ?_
  cases r1 <;> first | exact q1.elim | skip
  case str y =>
    have g := tab_get T y
    have q1 : ∀ v G' H', Same G1 G' → StOk F io G' Fr H' σ ρ1 → (kvs.lookup y).isSome = v → Q v H' := q1
    cases c : kvs.lookup y with
    | none =>
      rw [c] at g q1
      exact ⟨y, none, rfl, rfl, by rw [← hK]; exact g, _, rfl, q1 _ G1 H1 (Same.refl _) S1 rfl⟩
    | some p =>
      rw [c] at g q1
      obtain ⟨u, v, h1, h2, h3⟩ := g
      exact ⟨y, some u, rfl, rfl, by rw [← hK]; exact h1, _, rfl, q1 _ G1 H1 (Same.refl _) S1 rfl⟩
/-- TABLE[x] -/
theorem pp_getT {x : Str} {p2 : Pos} {d : DE} {k : Addr} {kvs : List (Str × PV)} (hK : F.K = X.K) (hw : F.w = X.w) (T : TabOk F k kvs) (hm : X.mg x = some (.ref k)) (hg : Gl X x) (h : PE X a (tE F io W d)) (hns : NoSl a) (hd : (x == ("__debug__" : Str)) = false := by decide) :
    PE X (.Subscript (.Name x p2) a pos) (tE F io W (dGetT kvs d)) := by
  obtain ⟨es, n, D⟩ := T.kd
  have D : KDict X.K X.w k es n := by rw [← hK, ← hw]; exact D
  have hb : PE X (.Name x p2) (tC (.ref k)) := pe_glob (v := .ref k) hg hm rfl hd
  refine ⟨fun pins s σ H Q I ⟨G, Fr, ρ, S, q⟩ => ?_⟩
  refine subD_of PySem.F.slot_dict_getitem.lookup hns (thn (hb.run pins s σ H (fun v H1 => v = .ref k ∧ H1 = H) I ⟨rfl, rfl⟩) fun u s1 ⟨x, H1, I1, rx, ex, eH⟩ => ?_)
  subst ex
  subst eH
  obtain rfl : u = Value.ref k := rx
  refine thn (h.run pins s1 σ H1 (fun v H2 => ∃ G1 ρ1 x, StOk F io G1 Fr H2 σ ρ1 ∧ Rep F G1 x v ∧ Post (Rep F) F io W Fr G1 σ Q (ofO (pGetT kvs x) ρ1)) I1 (tD.step S q fun v H2 G1 ρ1 x e1 S1 r1 q1 => ⟨G1, ρ1, x, S1, r1, q1⟩)) fun iv s2 ⟨y, H2, I2, ry, G1, ρ1, x, S1, r1, q1⟩ => ?_
  obtain ⟨z, hz, kk⟩ := Post.ofO (γ := Unit) q1 S1
  refine ⟨kd_type D I2, ?_⟩
  cases r1 <;> first | (exfalso; cases hz; done) | skip
  case str y =>
    have g := tab_get T y
    have hz : kvs.lookup y = some z := hz
    rw [hz] at g
    obtain ⟨u, v, h1, h2, h3⟩ := g
    exact op_item_kd D pins s2 σ H2 (.ref k) (.str y) (.ref k) iv Q I2 rfl ry ⟨y, u, v, rfl, rfl, by rw [← hK]; exact h1, h2, kk _ G1 H2 (Grow.refl S1.sub) (h3 _)⟩

/-! ### errors -/
theorem pmk_own0 {x : Str} {p : Pos} {C : Addr} {bmB : List Value} {B newId initId : String} (FB : ExcBaseFacts B newId initId bmB) (q : PySem.W.excIn X.K C bmB newId = true) (gC : X.mg x = some (.ref C)) (kC : PySem.W.keepIn X.K (.ref C) = true) (r : Raises X (.ref C)) (hg : Gl X x)
    (hdb : (x == ("__debug__" : Str)) = false := by decide) : PMk X (.Call (.Name x p) [] [] pos) (fun _ H Q => Q (.ref C) none H) := by
  intro pins s σ H Q I h
  refine wpAny_Call_Name_kw (ld_glob I hg gC ?_ hdb)
  refine PySem.W.callWith_K0 I.kIn kC ?_
  obtain ⟨bm, N, nm, qn, bs, hdct, sn, sub, ab, col, dd, k0, k1, k2, k3, k5, mN, hC, hN, hni, T⟩ := exc_obj I.kIn q
  obtain ⟨hp1, g1, d1, tk1, os1⟩ := s
  exact wpAny_call_exc_subT FB T hC hN hni (fun h' e hm => mk_of I hm r h (I.hok.gone hm.new)) (Nat.zero_le _)
/-- facts of an own class of error, without an __init__ of its own -/
structure ExcC (X : Cx) (x : Str) (C : Addr) : Prop where
  mg : X.mg x = some (.ref C)
  ok : PySem.W.excIn X.K C He.veBase "ValueError.__new__" = true
  kp : PySem.W.keepIn X.K (.ref C) = true
  rs : Raises X (.ref C)
def sRaise (c : Nat) : DS := fun ρ => .exc c [] ρ
theorem st_raise {x : Str} {p pos2 : Pos} {c : Nat} (hc : X.calm = true) (tk : Takes X W) (E : ExcC X x (F.cls c)) (hg : Gl X x) (hdb : (x == ("__debug__" : Str)) = false := by decide) : PS X (.Raise (some (.Call (.Name x p) [] [] pos2)) none pos) (tS F io W (sRaise c)) :=
  (ps_raise hc tk (pmk_own0 PySem.F.excBase_ValueError E.ok E.mg E.kp E.rs hg hdb)).imp fun D σ H ⟨G, Fr, ρ, S, q⟩ => q none σ G H (Same.refl _) S rfl

/-! ### lists of one's own -/
def sNewL (i : Nat) (d : DD (List PV)) : DS := fun ρ => (d ρ).toOut fun xs ρ => if xs.length ≤ 1000 then .nx (ρ.set i (some (.own (.lst xs)))) else .stuck
theorem st_newL {i : Nat} {x : Str} {d : DD (List PV)} {pos' p2 : Pos} (hN : X.N.Nodup) (hi : X.N[i]? = some x) (hx : Loc X.env.scope x) (h : PA X es (tA F io W d)) (hs : swapsWith (.List es p2) (some (.Name x pos')) pos.line X.env = pure false := by rfl)
    (hf : X.fn x = true ∨ X.env.scope.names.lookup x = some .local := by first | exact .inl rfl | exact .inr rfl | assumption) : PS X (.Assign [.Name x pos'] (.List es p2) pos) (tS F io W (sNewL i d)) := by
  refine (ps_set hN hi hx (pe_lst h) hs hf).imp fun D σ H ⟨G, Fr, ρ, S, q⟩ => ?_
  refine tD.stepS S q fun vs H1 G1 ρ1 xs e1 S1 r1 q1 => ?_
  by_cases l : xs.length ≤ 1000
  · rw [if_pos l] at q1
    refine ⟨by rw [← r1.length]; exact line1000 l, fun p n => ?_⟩
    exact PostS.next q1 (S1.new_own n (.lst upd_same r1))
  · rw [if_neg l] at q1
    exact q1.elim
/-- what a slot's own object holds is changed -/
theorem StOk.mut_own {G Fr H : Hp} {σ : L2.St} {ρ : Rho} {i : Nat} {c c' : PV} {p : Addr} {o : HO} (S : StOk F io G Fr H σ ρ) (e : ρ[i]? = some (some (.own c))) (es : σ[i]? = some (some (.ref p))) (r : Own F G (upd H p o) p c') : StOk F io G Fr (upd H p o) σ (ρ.set i (some (.own c'))) := by
  obtain ⟨a, h1, h2, h3, h4, h5⟩ := S.own i c e
  rw [es] at h1
  cases h1
  have k : ∀ b u, b ≠ p → H b = some u → upd H p o b = some u := fun b u n h => by rw [upd_ne n]; exact h
  refine ⟨fun b u h => k b u (ne_of_none h h2) (S.sub b u h), fun b u h => k b u (ne_of_none h h3) (S.fsub b u h), S.dis, by rw [List.length_set]; exact S.len, fun j q ej => ?_, fun j d ej => ?_, fun j l d d' b ej el s1 s2 => ?_, fun b eb => ?_, fun j d ej => ?_, fun j l d d' ej el => ?_⟩
  · rcases slot_set ej with ⟨_, z⟩ | ⟨n, z⟩
    · cases z
    · exact S.val j q z
  · rcases slot_set ej with ⟨rfl, z⟩ | ⟨n, z⟩
    · injection z with z
      subst z
      exact ⟨p, es, h2, h3, r, h5⟩
    · obtain ⟨b, g1, g2, g3, g4, g5⟩ := S.own j d z
      refine ⟨b, g1, g2, g3, g4.same (Same.refl _) fun u hu => k b u (fun w => ?_) hu, g5⟩
      subst w
      exact n (S.sep i j c d b e z es g1)
  · have old : ∀ j d, (ρ.set i (some (.own c')))[j]? = some (some (SV.own d)) → ∃ d', ρ[j]? = some (some (SV.own d')) := fun j d h => by
      rcases slot_set h with ⟨rfl, _⟩ | ⟨_, z⟩
      · exact ⟨c, e⟩
      · exact ⟨d, z⟩
    obtain ⟨d1, z1⟩ := old j d ej
    obtain ⟨d2, z2⟩ := old l d' el
    exact S.sep j l d1 d2 b z1 z2 s1 s2
  · obtain ⟨g1, g2, u, g3⟩ := S.iot b eb
    exact ⟨g1, g2, u, k b u (fun w => h5 (by rw [← w]; exact eb)) g3⟩
  · rcases slot_set ej with ⟨_, z⟩ | ⟨n, z⟩
    · cases z
    · obtain ⟨b, g1, g2, g3⟩ := S.inp j d z
      exact ⟨b, g1, g2, g3.same (Same.refl _) fun u hu => k b u (fun w => h5 (by rw [← w]; exact g1)) hu⟩
  · rcases slot_set ej with ⟨_, z⟩ | ⟨n, z⟩
    · cases z
    · rcases slot_set el with ⟨_, z2⟩ | ⟨n2, z2⟩
      · cases z2
      · exact S.one j l d d' z z2
/-- what was handed in is changed -/
theorem StOk.mut_inp {G Fr H : Hp} {σ : L2.St} {ρ : Rho} {i : Nat} {c c' : PV} {p : Addr} {o : HO} (S : StOk F io G Fr H σ ρ) (e : ρ[i]? = some (some (.inp c))) (es : σ[i]? = some (some (.ref p))) (r : Own F G (upd H p o) p c') : StOk F io G Fr (upd H p o) σ (ρ.set i (some (.inp c'))) := by
  obtain ⟨a, h1, h2, h3⟩ := S.inp i c e
  rw [es] at h2
  cases h2
  obtain ⟨n1, n2, o1, n3⟩ := S.iot p h1
  have k : ∀ b u, b ≠ p → H b = some u → upd H p o b = some u := fun b u n h => by rw [upd_ne n]; exact h
  refine ⟨fun b u h => k b u (ne_of_none h n1) (S.sub b u h), fun b u h => k b u (ne_of_none h n2) (S.fsub b u h), S.dis, by rw [List.length_set]; exact S.len, fun j q ej => ?_, fun j d ej => ?_, fun j l d d' b ej el s1 s2 => ?_, fun b eb => ?_, fun j d ej => ?_, fun j l d d' ej el => ?_⟩
  · rcases slot_set ej with ⟨_, z⟩ | ⟨n, z⟩
    · cases z
    · exact S.val j q z
  · rcases slot_set ej with ⟨_, z⟩ | ⟨n, z⟩
    · cases z
    · obtain ⟨b, g1, g2, g3, g4, g5⟩ := S.own j d z
      exact ⟨b, g1, g2, g3, g4.same (Same.refl _) fun u hu => k b u (fun w => g5 (by rw [w]; exact h1)) hu, g5⟩
  · rcases slot_set ej with ⟨_, z⟩ | ⟨n, z⟩
    · cases z
    · rcases slot_set el with ⟨_, z2⟩ | ⟨n2, z2⟩
      · cases z2
      · exact S.sep j l d d' b z z2 s1 s2
  · obtain ⟨g1, g2, u, g3⟩ := S.iot b eb
    refine ⟨g1, g2, ?_⟩
    rw [h1] at eb
    cases eb
    exact ⟨o, upd_same⟩
  · rcases slot_set ej with ⟨rfl, z⟩ | ⟨n, z⟩
    · injection z with z
      subst z
      exact ⟨p, h1, es, r⟩
    · exact absurd (S.one i j c d e z) n
  · have old : ∀ j d, (ρ.set i (some (.inp c')))[j]? = some (some (SV.inp d)) → ∃ d', ρ[j]? = some (some (SV.inp d')) := fun j d h => by
      rcases slot_set h with ⟨rfl, _⟩ | ⟨_, z⟩
      · exact ⟨c, e⟩
      · exact ⟨d, z⟩
    obtain ⟨d1, z1⟩ := old j d ej
    obtain ⟨d2, z2⟩ := old l d' el
    exact S.one j l d1 d2 z1 z2
/-- an object that may be changed at a slot -/
def slotM (ρ : Rho) (i : Nat) : Option PV := match ρ[i]? with
  | some (some (.own c)) => some c
  | some (some (.inp c)) => some c
  | _ => none
def putM (ρ : Rho) (i : Nat) (c : PV) : Rho := match ρ[i]? with
  | some (some (.own _)) => ρ.set i (some (.own c))
  | some (some (.inp _)) => ρ.set i (some (.inp c))
  | _ => ρ
theorem slotM_at {G Fr H : Hp} {σ : L2.St} {ρ : Rho} {i : Nat} {c : PV} (S : StOk F io G Fr H σ ρ) (e : slotM ρ i = some c) : ∃ p, σ[i]? = some (some (V.ref p)) ∧ G p = none ∧ Fr p = none ∧ Own F G H p c ∧
    ∀ o c', Own F G (upd H p o) p c' → StOk F io G Fr (upd H p o) σ (putM ρ i c') := by
  unfold slotM at e
  unfold putM
  cases q : ρ[i]? with
  | none => rw [q] at e; cases e
  | some x =>
    rw [q] at e
    cases x with
    | none => cases e
    | some sv =>
      cases sv with
      | val p => cases e
      | own d =>
        cases e
        obtain ⟨a, h1, h2, h3, h4, h5⟩ := S.own i _ q
        exact ⟨a, h1, h2, h3, h4, fun o c' r => S.mut_own q h1 r⟩
      | inp d =>
        cases e
        obtain ⟨a, h1, h2, h3⟩ := S.inp i _ q
        obtain ⟨n1, n2, _⟩ := S.iot a h1
        exact ⟨a, h2, n1, n2, h3, fun o c' r => S.mut_inp q h2 r⟩
/-- x.append(e) -/
def sApp (i : Nat) (d : DE) : DS := fun ρ => (d ρ).toOut fun y ρ => match slotM ρ i with
  | some (.lst xs) => if xs.length < LIM then .nx (putM ρ i (.lst (xs ++ [y]))) else .stuck
  | _ => .stuck
/-- the slot's object is a list ahead of it -/
def isLstM (ρ : Rho) (i : Nat) : Bool := match slotM ρ i with
  | some (.lst _) => true
  | _ => false
def sApp' (i : Nat) (d : DE) : DS := fun ρ => if isLstM ρ i = true then sApp i d ρ else .stuck
theorem own_lst {G H : Hp} {p : Addr} {xs : List PV} (h : Own F G H p (.lst xs)) : ∃ vs, H p = some (.lst vs) ∧ Reps F G xs vs := by
  cases h with
  | lst h r => exact ⟨_, h, r⟩
theorem lstM_at {ρ : Rho} {i : Nat} (h : isLstM ρ i = true) : ∃ xs, slotM ρ i = some (.lst xs) := by
  unfold isLstM at h
  split at h
  · rename_i xs q
    exact ⟨xs, q⟩
  · cases h
theorem st_app {i : Nat} {x : Str} {d : DE} {p1 apos cpos : Pos} (hv : PE X (.Name x p1) (tVar i)) (h : PE X e (tE F io W d)) (hs : swapsWith (.Call (.Attribute (.Name x p1) "append" apos) [e] [] cpos) none pos.line X.env = pure false := by rfl)
    (hbase : attributeBase (.Name x p1) "append" X.env (eval (.Name x p1) X.env) = eval (.Name x p1) X.env := by rfl)
    (hfew : ((backTo cpos (starEach [e] X.env)).all (fun x => !x.1) && (backToKw cpos (keywordEach [] X.env)).all (fun x => x.1.isSome)
      && decide ([e].length + ([] : List Keyword).length + (if ([] : List Keyword).isEmpty then 0 else 1) < 30)) = true := by rfl)
    (hline : (apos.endLine == cpos.line) = true := by rfl) (hst : starEach [e] X.env = (false, eval e X.env) :: starEach [] X.env := by rfl) (hplain : (backTo cpos (starEach [] X.env)).any (·.1) = false := by rfl) :
    PS X (.Expr (.Call (.Attribute (.Name x p1) "append" apos) [e] [] cpos) pos) (tS F io W (sApp' i d)) := by
  refine (ps_expr (pe_bm PySem.F.plainAttrs_list PySem.F.slot_list_append PySem.F.type_list_append mt_append hv (pa_cons h pa_nil hst) hbase hfew hline hst hplain) hs).imp fun D σ H ⟨G, Fr, ρ, S, q⟩ => ?_
  unfold sApp' at q
  by_cases l : isLstM ρ i = true
  · rw [if_pos l] at q
    obtain ⟨xs, em⟩ := lstM_at l
    obtain ⟨p, h1, h2, h3, h4, _⟩ := slotM_at S em
    obtain ⟨vs, g1, g2⟩ := own_lst h4
    refine ⟨.ref p, h1, .inl ⟨rfl, vs, .of g1⟩, ?_⟩
    unfold sApp at q
    refine tD.stepS S q fun u H1 G1 ρ1 y e1 S1 r1 q1 => ?_
    cases em1 : slotM ρ1 i with
    | none => rw [em1] at q1; exact q1.elim
    | some c =>
      rw [em1] at q1
      cases c <;> first | exact q1.elim | skip
      case lst ys =>
        obtain ⟨p', k1, k2, k3, k4, k5⟩ := slotM_at S1 em1
        rw [h1] at k1
        cases k1
        obtain ⟨vs', g1', g2'⟩ := own_lst k4
        have q1 : PostS F io W Fr G1 D (if ys.length < LIM then .nx (putM ρ1 i (.lst (ys ++ [y]))) else .stuck) := q1
        by_cases ll : ys.length < LIM
        · rw [if_pos ll] at q1
          refine ⟨p, vs', u, rfl, rfl, g1', ?_, ?_⟩
          · rw [← g2'.length]
            exact Nat.lt_trans ll (by decide)
          · exact PostS.next q1 (k5 _ _ (.lst upd_same (g2'.append (.cons r1 .nil))))
        · rw [if_neg ll] at q1
          exact q1.elim
  · rw [if_neg l] at q
    exact q.elim
/-- x[i] = e of a list of one's own -/
def sPut (i : Nat) (d di : DE) : DS := fun ρ => (d ρ).toOut fun y ρ => if isLstM ρ i = true then (di ρ).toOut fun k ρ => (match slotM ρ i, k with
    | some (.lst xs), .int j => (match ixN xs.length j with
      | some m => .nx (putM ρ i (.lst (xs.set m y)))
      | none => .stuck)
    | _, _ => .stuck) else .stuck
theorem st_put {i : Nat} {x : Str} {d di : DE} {p1 p2 : Pos} {ix : Expr} (hv : PE X (.Name x p1) (tVar i)) (h : PE X e (tE F io W d)) (hi : PE X ix (tE F io W di)) (hs : swapsWithSole [.Subscript (.Name x p1) ix p2] e pos.line X.env = pure false := by rfl) (hw : swappedStores [.Subscript (.Name x p1) ix p2] e X.env = pure none := by rfl)
    (h1 : (assignEach [.Subscript (.Name x p1) ix p2] X.env).map (·.2) = [assign (.Subscript (.Name x p1) ix p2) X.env] := by rfl)
    (ha : ∀ v, assign (.Subscript (.Name x p1) ix p2) X.env v = (do
      let ov ← holding [v] (eval (.Name x p1) X.env)
      let iv ← holding [v, ov] (eval ix X.env)
      standAt p2
      holding [v, ov, iv] (setItem ov iv v)
      release [v, ov, iv] []) := by intro _; rfl) : PS X (.Assign [.Subscript (.Name x p1) ix p2] e pos) (tS F io W (sPut i d di)) := by
  refine (ps_asg h (pg_sub hv hi set_list ha) hs hw h1).imp fun D σ H ⟨G, Fr, ρ, S, q⟩ => ?_
  refine tD.stepS S q fun u H1 G1 ρ1 y e1 S1 r1 q1 => ?_
  by_cases l : isLstM ρ1 i = true
  · rw [if_pos l] at q1
    obtain ⟨xs, em⟩ := lstM_at l
    obtain ⟨p, h1, h2, h3, h4, _⟩ := slotM_at S1 em
    refine ⟨.ref p, h1, ?_⟩
    refine tD.stepS S1 q1 fun iv H2 G2 ρ2 k e2 S2 r2 q2 => ?_
    cases em1 : slotM ρ2 i with
    | none => rw [em1] at q2; exact q2.elim
    | some c =>
      rw [em1] at q2
      cases c <;> first | exact q2.elim | skip
      case lst ys =>
        cases r2 <;> first | exact q2.elim | skip
        case int j =>
          have q2 : PostS F io W Fr G2 D (match ixN ys.length j with
            | some m => .nx (putM ρ2 i (.lst (ys.set m y)))
            | none => .stuck) := q2
          cases ej : ixN ys.length j with
          | none => rw [ej] at q2; exact q2.elim
          | some m =>
            rw [ej] at q2
            obtain ⟨p', k1, k2, k3, k4, k5⟩ := slotM_at S2 em1
            rw [h1] at k1
            cases k1
            obtain ⟨vs, g1, g2⟩ := own_lst k4
            exact ⟨p, vs, j, m, rfl, rfl, g1, by rw [← g2.length]; exact ej, PostS.next q2 (k5 _ _ (.lst upd_same (g2.set (r1.same e2) m)))⟩
  · rw [if_neg l] at q1
    exact q1.elim
/-- x[e] of a list of one's own: read -/
def dIxM (i : Nat) (di : DE) : DE := fun ρ => if isLstM ρ i = true then (di ρ).bind fun k ρ => (match slotM ρ i with
    | some (.lst xs) => ofO (pIx (.lst xs) k) ρ
    | _ => .stuck) else .stuck
theorem pp_ixM {i : Nat} {x : Str} {di : DE} {p1 : Pos} {ix : Expr} (hK : F.K = X.K) (hv : PE X (.Name x p1) (tVar i)) (hi : PE X ix (tE F io W di)) (hs : PlainIx ix := by intro _ _; rfl) : PE X (.Subscript (.Name x p1) ix pos) (tE F io W (dIxM i di)) := by
  refine (pe_ix ix_list hv hi hs).imp fun σ H Q ⟨G, Fr, ρ, S, q⟩ => ?_
  unfold dIxM at q
  by_cases l : isLstM ρ i = true
  · rw [if_pos l] at q
    obtain ⟨xs, em⟩ := lstM_at l
    obtain ⟨p, h1, h2, h3, h4, _⟩ := slotM_at S em
    refine ⟨.ref p, h1, ?_⟩
    refine tD.step S q fun iv H2 G2 ρ2 k e2 S2 r2 q2 => ?_
    cases em1 : slotM ρ2 i with
    | none => rw [em1] at q2; exact q2.elim
    | some c =>
      rw [em1] at q2
      cases c <;> first | exact q2.elim | skip
      case lst ys =>
        obtain ⟨z, hz, kk⟩ := Post.ofO (γ := Unit) q2 S2
        obtain ⟨p', k1, k2, k3, k4, k5⟩ := slotM_at S2 em1
        rw [h1] at k1
        cases k1
        obtain ⟨vs, g1, g2⟩ := own_lst k4
        cases r2 <;> first | (exfalso; cases hz; done) | skip
        case int j =>
          obtain ⟨v, h1, h2⟩ := atI_rep g2 hz
          exact ⟨_, _, _, _, rfl, rfl, .of g1, h1, kk _ G2 H2 (Grow.refl S2.sub) h2⟩
  · rw [if_neg l] at q
    exact q.elim
/-- an object of one's own is handed on as a value: from now on it stands still -/
def dFz (i : Nat) : DE := fun ρ => match ρ[i]? with
  | some (some (.own c)) => .ok c (ρ.set i (some (.val c)))
  | _ => .stuck
theorem pp_fz {i : Nat} {x : Str} (hv : PE X (.Name x pos) (tVar i)) : PE X (.Name x pos) (tE F io W (dFz i)) := by
  refine hv.imp fun σ H Q ⟨G, Fr, ρ, S, q⟩ => ?_
  unfold dFz at q
  cases e : ρ[i]? with
  | none => rw [e] at q; exact q.elim
  | some o =>
    cases o with
    | none => rw [e] at q; exact q.elim
    | some sv =>
      cases sv with
      | val => rw [e] at q; exact q.elim
      | inp => rw [e] at q; exact q.elim
      | own c =>
        rw [e] at q
        obtain ⟨a, h1, h2, h3, h4, h5⟩ := S.own i c e
        obtain ⟨o, ho⟩ := h4.there
        have sD : Same G (upd G a o) := same_upd h2
        refine ⟨.ref a, h1, q (.ref a) (upd G a o) H sD ?_ (h4.frozen ho sD)⟩
        refine ⟨fun b u h => ?_, S.fsub, fun b u h => ?_, by rw [List.length_set]; exact S.len, fun j p ej => ?_, fun j d ej => ?_, fun j l d d' b ej el s1 s2 => ?_, fun b eb => ?_, fun j d ej => ?_, fun j l d d' ej el => ?_⟩
        · by_cases z : b = a
          · subst z
            rw [upd_same] at h
            cases h
            exact ho
          · rw [upd_ne z] at h
            exact S.sub b u h
        · by_cases z : b = a
          · subst z
            exact h3
          · rw [upd_ne z] at h
            exact S.dis b u h
        · rcases slot_set ej with ⟨rfl, z⟩ | ⟨n, z⟩
          · injection z with z
            subst z
            exact ⟨.ref a, h1, h4.frozen ho sD⟩
          · obtain ⟨v, g1, g2⟩ := S.val j p z
            exact ⟨v, g1, g2.same sD⟩
        · rcases slot_set ej with ⟨rfl, z⟩ | ⟨n, z⟩
          · cases z
          · obtain ⟨b, g1, g2, g3, g4, g5⟩ := S.own j d z
            refine ⟨b, g1, ?_, g3, g4.same sD fun u hu => hu, g5⟩
            rw [upd_ne (fun w => n (S.sep i j c d a e z h1 (by rw [← w]; exact g1)))]
            exact g2
        · rcases slot_set ej with ⟨rfl, z⟩ | ⟨n, z⟩
          · cases z
          · rcases slot_set el with ⟨rfl, z2⟩ | ⟨n2, z2⟩
            · cases z2
            · exact S.sep j l d d' b z z2 s1 s2
        · obtain ⟨g1, g2, g3⟩ := S.iot b eb
          refine ⟨?_, g2, g3⟩
          rw [upd_ne (fun w => h5 (by rw [← w]; exact eb))]
          exact g1
        · rcases slot_set ej with ⟨rfl, z⟩ | ⟨n, z⟩
          · cases z
          · obtain ⟨b, g1, g2, g3⟩ := S.inp j d z
            exact ⟨b, g1, g2, g3.same sD fun u hu => hu⟩
        · rcases slot_set ej with ⟨rfl, z⟩ | ⟨n, z⟩
          · cases z
          · rcases slot_set el with ⟨rfl, z2⟩ | ⟨n2, z2⟩
            · cases z2
            · exact S.one j l d d' z z2
end
end Pl

set_option maxHeartbeats 4000000
/-! P7: defs that change what is handed in; defs that hand back a new list; try. -/
namespace Pl
open PySem PySem.Spec PyProof.Rows L2

inductive FRI where
  | ok (p : PV) (c : PV)
  | stuck
/-- the heap behind a call that may change p -/
structure GrowI (p : Addr) (G H G' H' : Hp) : Prop where
  all : ∀ a o, a ≠ p → H a = some o → H' a = some o
  gle : Same G G'
  sub : Same G' H'
  new : ∀ a o, G' a = some o → G a = none → H a = none
/-- a def of n parameters that may change the object at the first one does what φ says -/
def spI (F : Fx) (n : Nat) (φ : PV → List PV → FRI) : Sp := fun vs H Q _ => vs.length = n ∧ ∃ G p c ps vr, vs = .ref p :: vr ∧ Same G H ∧ G p = none ∧ Own F G H p c ∧ Reps F G ps vr ∧ match φ c ps with
  | .ok r c' => ∀ v G' H', GrowI p G H G' H' → Own F G' H' p c' → Rep F G' r v → Q v H'
  | .stuck => False
/-- a def that hands back a new list -/
def spO (F : Fx) (n : Nat) (φ : List PV → Option PV) : Sp := fun vs H Q _ => vs.length = n ∧ ∃ G ps, Same G H ∧ Reps F G ps vs ∧ match φ ps with
  | some c => ∀ p G' H', Grow G H G' H' → H p = none → G' p = none → Own F G' H' p c → Q (.ref p) H'
  | none => False
section
variable {F : Fx} {io : Option Addr} {W : WX} {Fr G G' H H' : Hp} {σ : L2.St} {ρ : Rho}
theorem StOk.thru {i : Nat} {c c' : PV} {p : Addr} (S : StOk F io G Fr H σ ρ) (e : slotM ρ i = some c) (es : σ[i]? = some (some (V.ref p))) (g : GrowI p G H G' H') (r : Own F G' H' p c') : StOk F io G' Fr H' σ (putM ρ i c') := by
  have there : ∃ o, H p = some o := by
    obtain ⟨q, h1, _, _, h4, _⟩ := slotM_at S e
    rw [es] at h1
    cases h1
    exact h4.there
  have z0 : ∀ a, G a = none → (∃ o, H a = some o) → G' a = none := fun a h ⟨o, ho⟩ => by
    cases q : G' a with
    | none => rfl
    | some u =>
      rw [g.new a u q h] at ho
      cases ho
  have nFp : Fr p = none := by
    obtain ⟨q, h1, _, h3, _, _⟩ := slotM_at S e
    rw [es] at h1
    cases h1
    exact h3
  have fs : Same Fr H' := fun b u h => g.all b u (ne_of_none h nFp) (S.fsub b u h)
  have ds : ∀ a o, G' a = some o → Fr a = none := fun a o h => by
    cases q : G a with
    | some u => exact S.dis a u q
    | none => exact S.fsub.free (g.new a o h q)
  unfold slotM at e
  unfold putM
  cases q : ρ[i]? with
  | none => rw [q] at e; cases e
  | some x =>
    rw [q] at e
    cases x with
    | none => cases e
    | some sv =>
      cases sv with
      | val d => cases e
      | own d =>
        cases e
        obtain ⟨a, h1, h2, h3, h4, h5⟩ := S.own i _ q
        rw [es] at h1
        cases h1
        refine ⟨g.sub, fs, ds, by rw [List.length_set]; exact S.len, fun j x ej => ?_, fun j d ej => ?_, fun j l d d' b ej el s1 s2 => ?_, fun b eb => ?_, fun j d ej => ?_, fun j l d d' ej el => ?_⟩
        · rcases slot_set ej with ⟨_, z⟩ | ⟨n, z⟩
          · cases z
          · obtain ⟨v, g1, g2⟩ := S.val j x z
            exact ⟨v, g1, g2.same g.gle⟩
        · rcases slot_set ej with ⟨rfl, z⟩ | ⟨n, z⟩
          · injection z with z
            subst z
            exact ⟨p, es, z0 p h2 there, h3, r, h5⟩
          · obtain ⟨b, g1, g2, g3, g4, g5⟩ := S.own j d z
            refine ⟨b, g1, z0 b g2 g4.there, g3, g4.same g.gle fun u hu => g.all b u (fun w => ?_) hu, g5⟩
            subst w
            exact n (S.sep i j _ d b q z es g1)
        · have old : ∀ j d, (ρ.set i (some (.own c')))[j]? = some (some (SV.own d)) → ∃ d', ρ[j]? = some (some (SV.own d')) := fun j d h => by
            rcases slot_set h with ⟨rfl, _⟩ | ⟨_, z⟩
            · exact ⟨_, q⟩
            · exact ⟨d, z⟩
          obtain ⟨d1, z1⟩ := old j d ej
          obtain ⟨d2, z2⟩ := old l d' el
          exact S.sep j l d1 d2 b z1 z2 s1 s2
        · obtain ⟨g1, g2, u, g3⟩ := S.iot b eb
          exact ⟨z0 b g1 ⟨u, g3⟩, g2, u, g.all b u (fun w => h5 (by rw [← w]; exact eb)) g3⟩
        · rcases slot_set ej with ⟨_, z⟩ | ⟨n, z⟩
          · cases z
          · obtain ⟨b, g1, g2, g3⟩ := S.inp j d z
            exact ⟨b, g1, g2, g3.same g.gle fun u hu => g.all b u (fun w => h5 (by rw [← w]; exact g1)) hu⟩
        · rcases slot_set ej with ⟨_, z⟩ | ⟨n, z⟩
          · cases z
          · rcases slot_set el with ⟨_, z2⟩ | ⟨n2, z2⟩
            · cases z2
            · exact S.one j l d d' z z2
      | inp d =>
        cases e
        obtain ⟨a, h1, h2, h3⟩ := S.inp i _ q
        rw [es] at h2
        cases h2
        obtain ⟨n1, n2, o1, n3⟩ := S.iot p h1
        refine ⟨g.sub, fs, ds, by rw [List.length_set]; exact S.len, fun j x ej => ?_, fun j d ej => ?_, fun j l d d' b ej el s1 s2 => ?_, fun b eb => ?_, fun j d ej => ?_, fun j l d d' ej el => ?_⟩
        · rcases slot_set ej with ⟨_, z⟩ | ⟨n, z⟩
          · cases z
          · obtain ⟨v, g1, g2⟩ := S.val j x z
            exact ⟨v, g1, g2.same g.gle⟩
        · rcases slot_set ej with ⟨_, z⟩ | ⟨n, z⟩
          · cases z
          · obtain ⟨b, g1, g2, g3, g4, g5⟩ := S.own j d z
            exact ⟨b, g1, z0 b g2 g4.there, g3, g4.same g.gle fun u hu => g.all b u (fun w => g5 (by rw [w]; exact h1)) hu, g5⟩
        · rcases slot_set ej with ⟨_, z⟩ | ⟨n, z⟩
          · cases z
          · rcases slot_set el with ⟨_, z2⟩ | ⟨n2, z2⟩
            · cases z2
            · exact S.sep j l d d' b z z2 s1 s2
        · obtain ⟨g1, g2, u, g3⟩ := S.iot b eb
          rw [h1] at eb
          cases eb
          exact ⟨z0 p g1 ⟨u, g3⟩, g2, r.there⟩
        · rcases slot_set ej with ⟨rfl, z⟩ | ⟨n, z⟩
          · injection z with z
            subst z
            exact ⟨p, h1, es, r⟩
          · exact absurd (S.one i j _ d q z) n
        · have old : ∀ j d, (ρ.set i (some (.inp c')))[j]? = some (some (SV.inp d)) → ∃ d', ρ[j]? = some (some (SV.inp d')) := fun j d h => by
            rcases slot_set h with ⟨rfl, _⟩ | ⟨_, z⟩
            · exact ⟨_, q⟩
            · exact ⟨d, z⟩
          obtain ⟨d1, z1⟩ := old j d ej
          obtain ⟨d2, z2⟩ := old l d' el
          exact S.one j l d1 d2 z1 z2
end
section
variable {X : Cx} {F : Fx} {io : Option Addr} {W : WX} {a b e : Expr} {es : List Expr} {pos : Pos}
/-- f(x, ..) where f may change the object at slot i -/
def dCallI (i : Nat) (φ : PV → List PV → FRI) (d : DD (List PV)) : DE := fun ρ => if (slotM ρ i).isSome = true then (d ρ).bind fun xs ρ => (match slotM ρ i with
    | some c => (match φ c xs with
      | .ok r c' => .ok r (putM ρ i c')
      | .stuck => .stuck)
    | none => .stuck) else .stuck
theorem pp_callI {k : Nat} {f : Addr} {fd : FuncData} {ps : List Str} {φ : PV → List PV → FRI} {x : Str} {p p1 : Pos} {i : Nat} {y : Str} {d : DD (List PV)} (n : Nat) (tk : Takes X W) (G : FnOk X.prog X.w X.K X.mg X.base (CX X.prog X.w) k f fd ps (spI F (n + 1) φ)) (hr : Room k X.A) (hm : X.mg x = some (.ref f))
    (hk : PySem.W.keepIn X.K (.ref f) = true) (hb : Binds X.K fd ps []) (hg : Gl X x) (hv : PE X (.Name y p1) (tVar i)) (ha : PA X es (tA F io W d)) [L : LenA d n] (hdb : (x == ("__debug__" : Str)) = false := by decide)
    (he : starEach (.Name y p1 :: es) X.env = (false, eval (.Name y p1) X.env) :: starEach es X.env := by rfl) (hpl : (backTo pos (starEach es X.env)).any (·.1) = false := by rfl) :
    PE X (.Call (.Name x p) (.Name y p1 :: es) [] pos) (tE F io W (dCallI i φ d)) := by
  refine (pe_callS (E := fun σ => WE W σ) G hr hg hm hk hb (fun σ => passAt tk σ) (pa_cons hv ha he) hdb he hpl).imp fun σ H Q ⟨G, Fr, ρ, S, q⟩ => ?_
  unfold dCallI at q
  by_cases hi : (slotM ρ i).isSome = true
  · rw [if_pos hi] at q
    obtain ⟨c0, ec0⟩ := Option.isSome_iff_exists.mp hi
    obtain ⟨p0, h1, _, _, _, _⟩ := slotM_at S ec0
    refine ⟨.ref p0, h1, ?_⟩
    refine ⟨G, Fr, ρ, S, ?_⟩
    cases ed : d ρ with
    | stuck => rw [ed] at q; exact q
    | exc c as ρ1 => rw [ed] at q; exact q
    | ok xs ρ1 =>
      rw [ed] at q
      intro vs G1 H1 e1 S1 r1
      cases em : slotM ρ1 i with
      | none =>
        have q : Post (Rep F) F io W Fr G σ Q (match slotM ρ1 i with
          | some c => (match φ c xs with
            | .ok r c' => .ok r (putM ρ1 i c')
            | .stuck => .stuck)
          | none => .stuck) := q
        rw [em] at q
        exact q.elim
      | some c =>
        have q : Post (Rep F) F io W Fr G σ Q (match slotM ρ1 i with
          | some c => (match φ c xs with
            | .ok r c' => .ok r (putM ρ1 i c')
            | .stuck => .stuck)
          | none => .stuck) := q
        rw [em] at q
        obtain ⟨p1, k1, k2, k3, k4, k5⟩ := slotM_at S1 em
        rw [h1] at k1
        cases k1
        refine ⟨by rw [List.length_cons, ← r1.length]; exact congrArg (· + 1) (L.len _ _ _ ed), G1, p0, c, xs, vs, rfl, S1.sub, k2, k4, r1, ?_⟩
        dsimp only at q
        cases ef : φ c xs with
        | ok r c' =>
          rw [ef] at q
          exact fun v G2 H2 g o r2 => q v G2 H2 (e1.trans g.gle) (S1.thru em h1 g o) r2
        | stuck => rw [ef] at q; exact q
  · rw [if_neg hi] at q
    exact q.elim
def runI (n : Nat) (d : DS) (c : PV) (ps : List PV) : FRI := match d (some (.inp c) :: ps.map (fun p => some (.val p)) ++ List.replicate (n - (ps.length + 1)) none) with
  | .rt p ρ => (match (ρ[(0 : Nat)]? : Option (Option SV)) with
    | some (some (SV.inp c')) => .ok p c'
    | _ => .stuck)
  | .nx ρ => (match (ρ[(0 : Nat)]? : Option (Option SV)) with
    | some (some (SV.inp c')) => .ok .non c'
    | _ => .stuck)
  | _ => .stuck
theorem startI_ok {G H : Hp} {N : List Str} {ps : List PV} {vs : List V} {p : Addr} {c : PV} (s : Same G H) (np : G p = none) (o : Own F G H p c) (r : Reps F G ps vs) :
    StOk F (some p) G (fun a => if (G a).isSome = true ∨ a = p then none else H a) H (L2.start N (.ref p :: vs)) (some (.inp c) :: ps.map (fun p => some (.val p)) ++ List.replicate (N.length - (ps.length + 1)) none) := by
  have no : ∀ (i : Nat) (sv : SV), (some (SV.inp c) :: ps.map (fun p => some (SV.val p)) ++ List.replicate (N.length - (ps.length + 1)) none)[i]? = some (some sv) → (i = 0 ∧ sv = .inp c) ∨ ∃ j p, i = j + 1 ∧ sv = .val p ∧ ps[j]? = some p := fun i sv e => by
    cases i with
    | zero => exact .inl ⟨rfl, (Option.some.inj (Option.some.inj e)).symm⟩
    | succ i =>
      have e : (ps.map (fun p => some (SV.val p)) ++ List.replicate (N.length - (ps.length + 1)) none)[i]? = some (some sv) := e
      by_cases l : i < ps.length
      · rw [List.getElem?_append_left (by simpa using l), List.getElem?_map] at e
        cases q : ps[i]? with
        | none => rw [q] at e; cases e
        | some p => rw [q] at e; cases e; exact .inr ⟨i, p, rfl, rfl, q⟩
      · rw [List.getElem?_append_right (by simpa using l), List.getElem?_replicate] at e
        split at e <;> cases e
  refine ⟨s, fun a u e => ?_, fun a u e => by simp [e], ?_, fun i x e => ?_, fun i d e => ?_, fun i j d d' b e => ?_, fun a e => ?_, fun i d e => ?_, fun i j d d' e e2 => ?_⟩
  · have e : (if (G a).isSome = true ∨ a = p then none else H a) = some u := e
    split at e
    · cases e
    · exact e
  · unfold L2.start
    simp [r.length]
  · rcases no i _ e with ⟨_, z⟩ | ⟨j, x', rfl, z, h⟩
    · cases z
    · cases z
      obtain ⟨v, h1, h2⟩ := r.get h
      refine ⟨v, ?_, h2⟩
      unfold L2.start
      rw [List.map_cons, List.cons_append]
      show (vs.map some ++ _)[j]? = _
      rw [List.getElem?_append_left (by simpa using lt_of_slot (l := vs.map some) (i := j) (y := v) (by rw [List.getElem?_map, h1]; rfl)), List.getElem?_map, h1]
      rfl
  · rcases no i _ e with ⟨_, z⟩ | ⟨j, x', rfl, z, h⟩ <;> cases z
  · rcases no i _ e with ⟨_, z⟩ | ⟨j, x', rfl, z, h⟩ <;> cases z
  · cases e
    exact ⟨np, by simp, o.there⟩
  · rcases no i _ e with ⟨rfl, z⟩ | ⟨j, x', rfl, z, h⟩
    · cases z
      exact ⟨p, rfl, rfl, o⟩
    · cases z
  · rcases no i _ e with ⟨rfl, z⟩ | ⟨j', x', rfl, z, h⟩
    · rcases no j _ e2 with ⟨rfl, z⟩ | ⟨j', x', rfl, z, h⟩
      · rfl
      · cases z
    · cases z
theorem endI_grow {G H G' H' : Hp} {σ : L2.St} {ρ : Rho} {p : Addr} (s : Same G H) (e : Same G G') (S : StOk F (some p) G' (fun a => if (G a).isSome = true ∨ a = p then none else H a) H' σ ρ) (t : ∃ o, H p = some o) : GrowI p G H G' H' := by
  have dis : ∀ a o, G' a = some o → (if (G a).isSome = true ∨ a = p then none else H a) = none := S.dis
  have fsub : ∀ a o, (if (G a).isSome = true ∨ a = p then none else H a) = some o → H' a = some o := S.fsub
  obtain ⟨np, _, _⟩ := S.iot p rfl
  refine ⟨fun a o n h => ?_, e, S.sub, fun a o h h0 => ?_⟩
  · cases q : G a with
    | none => exact fsub a o (by simp [q, h, n])
    | some u =>
      have h1 := s a u q
      rw [h] at h1
      cases h1
      exact S.sub a _ (e a _ q)
  · by_cases z : a = p
    · subst z
      rw [np] at h
      cases h
    · have h1 := dis a o h
      rw [if_neg (by simp [h0, z])] at h1
      exact h1
/-- THE RULE of a def that may change the object at its first parameter -/
theorem fn_inp {P : Program} {w : World} {K : PySem.W.Frag} {mg : Str → Option Value} {base : Heap} {x qual : Str} {params : Arguments} {body : List Stmt} {scope : Scope} {f : Addr} {fd : FuncData} {N ps : List Str} {k : Nat} {d : DS}
    (FD : FunD K x qual params body scope [] [] f fd) (S : FnScope N ps scope)
    (h : ∀ (cdv : Value) (A : Around) (outer : List Env) (s : Shared) (H : Hp) (E : XK) (io : Option Addr), Room k (A.deeper (envOfC qual scope s.heap.objs.size f cdv)) →
      PSs (cxOf (L2.CX P w) P w K mg base N qual scope f cdv A outer s H E) body (tS F io (fun cls d _ H => E cls d H) d)) :
    FnOk P w K mg base (L2.CX P w) (k + 1) f fd ps (spI F ps.length (runI N.length d)) := by
  refine FD.ok S (fun vs H Q E q => q.1) fun cdv A outer s H vs Q E hr q => ?_
  obtain ⟨hl, G, p, c, qs, vr, rfl, sub, np, o, r, q⟩ := q
  refine ⟨_, h cdv A outer s H E (some p) hr, ?_⟩
  refine ⟨G, _, _, startI_ok sub np o r, ?_⟩
  unfold runI at q
  cases ed : d (some (.inp c) :: qs.map (fun p => some (.val p)) ++ List.replicate (N.length - (qs.length + 1)) none) with
  | nx ρ =>
    rw [ed] at q
    dsimp only at q
    intro σ' G' H' e S'
    split at q
    · rename_i r2 c2 heq
      split at heq
      · rename_i c3 h0
        injection heq with e1 e2
        subst e1
        subst e2
        obtain ⟨a, h1, h2, h3⟩ := S'.inp 0 _ h0
        cases h1
        exact q .non G' H' (endI_grow sub e S' o.there) h3 .non
      · cases heq
    · exact q.elim
  | rt x ρ =>
    rw [ed] at q
    dsimp only at q
    intro v σ' G' H' e S' r'
    split at q
    · rename_i r2 c2 heq
      split at heq
      · rename_i c3 h0
        injection heq with e1 e2
        subst e1
        subst e2
        obtain ⟨a, h1, h2, h3⟩ := S'.inp 0 _ h0
        cases h1
        exact q v G' H' (endI_grow sub e S' o.there) h3 r'
      · cases heq
    · exact q.elim
  | exc c as ρ => rw [ed] at q; exact q.elim
  | stuck => rw [ed] at q; exact q.elim
/-! ### a def that hands back a new list: return [..] -/
def runO (n : Nat) (d : DD (List PV)) (ps : List PV) : Option PV := match d (ps.map (fun p => some (.val p)) ++ List.replicate (n - ps.length) none) with
  | .ok xs _ => if xs.length ≤ 1000 then some (.lst xs) else none
  | _ => none
theorem fn_own {P : Program} {w : World} {K : PySem.W.Frag} {mg : Str → Option Value} {base : Heap} {x qual : Str} {params : Arguments} {es : List Expr} {p1 p2 : Pos} {scope : Scope} {f : Addr} {fd : FuncData} {N ps : List Str} {k : Nat} {d : DD (List PV)}
    (FD : FunD K x qual params [.Return (some (.List es p1)) p2] scope [] [] f fd) (S : FnScope N ps scope)
    (h : ∀ (cdv : Value) (A : Around) (outer : List Env) (s : Shared) (H : Hp) (E : XK), Room k (A.deeper (envOfC qual scope s.heap.objs.size f cdv)) →
      PA (cxOf (L2.CX P w) P w K mg base N qual scope f cdv A outer s H E) es (tA F none (fun cls d _ H => E cls d H) d)) :
    FnOk P w K mg base (L2.CX P w) (k + 1) f fd ps (spO F ps.length (runO N.length d)) := by
  refine FD.ok S (fun vs H Q E q => q.1) fun cdv A outer s H vs Q E hr q => ⟨_, pss_one (ps_ret (pe_lst (h cdv A outer s H E hr))), ?_⟩
  obtain ⟨hl, G, qs, sub, r, q⟩ := q
  refine ⟨G, _, _, start_ok sub r, ?_⟩
  unfold runO at q
  cases ed : d (qs.map (fun p => some (.val p)) ++ List.replicate (N.length - qs.length) none) with
  | ok xs ρ =>
    rw [ed] at q
    intro us G' H' e S' r'
    dsimp only at q
    by_cases l : xs.length ≤ 1000
    · rw [if_pos l] at q
      refine ⟨by rw [← r'.length]; exact line1000 l, fun p n => ?_⟩
      have g := end_grow sub e S'
      have g2 : Grow G H G' (upd H' p (.lst us)) := ⟨g.all.trans (same_upd n), g.gle, S'.sub.trans (same_upd n), g.new⟩
      exact q p G' _ g2 (g.all.free n) (S'.sub.free n) (.lst upd_same r')
    · rw [if_neg l] at q
      exact q.elim
  | exc c as ρ => rw [ed] at q; exact q.elim
  | stuck => rw [ed] at q; exact q.elim
/-- x = f(..), f hands back a new list -/
def sCallO (i : Nat) (φ : List PV → Option PV) (d : DD (List PV)) : DS := fun ρ => (d ρ).toOut fun xs ρ => match φ xs with
  | some c => .nx (ρ.set i (some (.own c)))
  | none => .stuck
theorem st_callO {k : Nat} {f : Addr} {fd : FuncData} {ps : List Str} {φ : List PV → Option PV} {x y : Str} {p py : Pos} {i : Nat} {d : DD (List PV)} (n : Nat) (tk : Takes X W) (G : FnOk X.prog X.w X.K X.mg X.base (CX X.prog X.w) k f fd ps (spO F n φ)) (hr : Room k X.A) (hm : X.mg x = some (.ref f))
    (hk : PySem.W.keepIn X.K (.ref f) = true) (hb : Binds X.K fd ps []) (hN : X.N.Nodup) (hi : X.N[i]? = some y) (hy : Loc X.env.scope y) (hg : Gl X x) (ha : PA X (e :: es) (tA F io W d)) [L : LenA d n] (hdb : (x == ("__debug__" : Str)) = false := by decide)
    (he : starEach (e :: es) X.env = (false, eval e X.env) :: starEach es X.env := by rfl) (hpl : (backTo pos (starEach es X.env)).any (·.1) = false := by rfl) {pos2 : Pos} (hs : swapsWith (.Call (.Name x p) (e :: es) [] pos) (some (.Name y py)) pos2.line X.env = pure false := by rfl)
    (hf : X.fn y = true ∨ X.env.scope.names.lookup y = some .local := by first | exact .inl rfl | exact .inr rfl | assumption) :
    PS X (.Assign [.Name y py] (.Call (.Name x p) (e :: es) [] pos) pos2) (tS F io W (sCallO i φ d)) := by
  refine (ps_set hN hi hy (pe_callS (E := fun σ => WE W σ) G hr hg hm hk hb (fun σ => passAt tk σ) ha hdb he hpl) hs hf).imp fun D σ H ⟨G, Fr, ρ, S, q⟩ => ?_
  refine ⟨G, Fr, ρ, S, ?_⟩
  have q : PostS F io W Fr G D ((d ρ).toOut fun xs ρ => match φ xs with
    | some c => .nx (ρ.set i (some (.own c)))
    | none => .stuck) := q
  cases ed : d ρ with
  | stuck => rw [ed] at q; exact q
  | exc c as ρ1 => rw [ed] at q; exact fun dd G1 H1 e1 S1 x1 => q dd σ G1 H1 e1 S1 x1
  | ok xs ρ1 =>
    rw [ed] at q
    intro vs G1 H1 e1 S1 r1
    refine ⟨by rw [← r1.length]; exact L.len _ _ _ ed, G1, xs, S1.sub, r1, ?_⟩
    have q : PostS F io W Fr G D (match φ xs with
      | some c => .nx (ρ1.set i (some (.own c)))
      | none => .stuck) := q
    cases ef : φ xs with
    | some c =>
      rw [ef] at q
      intro a G2 H2 g na nG o
      refine PostS.next (PostS.gle (e1.trans g.gle) q) ((S1.grow g).take_own nG (S1.fsub.free na) (fun ee => ?_) (fun j c2 ej es2 => ?_) o)
      · obtain ⟨_, _, u, hu⟩ := S1.iot a ee
        rw [na] at hu
        cases hu
      · obtain ⟨b, h1, _, _, h4, _⟩ := S1.own j c2 ej
        rw [es2] at h1
        cases h1
        obtain ⟨u, hu⟩ := h4.there
        rw [na] at hu
        cases hu
    | none => rw [ef] at q; exact q.elim

/-! ### try: .. except X: .. except Y: .. -/
def hndl (sub : Nat → Nat → Bool) : List (Nat × DS) → Nat → List PV → Rho → Out
  | [], c, as, ρ => .exc c as ρ
  | (k, d) :: r, c, as, ρ => if sub c k = true then (match d ρ with
      | .nx ρ => .nx ρ
      | .rt p ρ => .rt p ρ
      | _ => .stuck) else hndl sub r c as ρ
def sTry (n : List Nat) (sub : Nat → Nat → Bool) (d : DS) (hs : List (Nat × DS)) : DS := fun ρ => match d ρ with
  | .exc c as ρ' => if n.contains c = true then hndl sub hs c as ρ' else .stuck
  | o => o
/-- which classes are under which -/
def SubOk (F : Fx) (n : List Nat) (sub : Nat → Nat → Bool) : Prop := ∀ c k, n.contains c = true → n.contains k = true → PySem.W.exmOne F.K (.ref (F.cls c)) (.ref (F.cls k)) = some (sub c k)
def hvals (F : Fx) (io : Option Addr) : List (Nat × DS) → List (Value × (Addr → Value → Option Addr → TS))
  | [] => []
  | (c, d) :: r => (.ref (F.cls c), fun _ _ _ => tS F io W0 d) :: hvals F io r
theorem hndl_ok {n : List Nat} {sub : Nat → Nat → Bool} {K : PySem.W.Frag} {Fr G H : Hp} {σ : L2.St} {ρ : Rho} {D : Ends} {c : Nat} {as : List PV} {dd : Option Addr} (hK : F.K = K) (hsub : SubOk F n sub) (hc : n.contains c = true) (S : StOk F io G Fr H σ ρ) (xa : ExcAt F G H c as dd) : ∀ {hs : List (Nat × DS)}, (∀ h ∈ hs, n.contains h.1 = true) →
    PostS F io W Fr G D (hndl sub hs c as ρ) → wMany K W D (hvals F io hs) (.ref (F.cls c)) dd σ H
  | [], _, q => q dd σ G H (Same.refl _) S xa
  | (k, d) :: r, hk, q => by
    refine ⟨sub c k, by rw [← hK]; exact hsub c k hc (hk _ List.mem_cons_self), fun e a na => ?_, fun e => ?_⟩
    · have q : PostS F io W Fr G D (if sub c k = true then (match d ρ with
        | .nx ρ => .nx ρ
        | .rt p ρ => .rt p ρ
        | _ => .stuck) else hndl sub r c as ρ) := q
      rw [if_pos e] at q
      refine ⟨G, Fr, ρ, S, ?_⟩
      show PostS F io W0 Fr G D (d ρ)
      cases ed : d ρ with
      | nx ρ1 => rw [ed] at q; exact q
      | rt p ρ1 => rw [ed] at q; exact q
      | exc c as ρ1 => rw [ed] at q; exact q.elim
      | stuck => rw [ed] at q; exact q.elim
    · have q : PostS F io W Fr G D (if sub c k = true then (match d ρ with
        | .nx ρ => .nx ρ
        | .rt p ρ => .rt p ρ
        | _ => .stuck) else hndl sub r c as ρ) := q
      rw [if_neg (by rw [e]; exact Bool.false_ne_true)] at q
      exact hndl_ok hK hsub hc S xa (fun h hh => hk h (List.mem_cons_of_mem _ hh)) q
theorem try_step {n : List Nat} {sub : Nat → Nat → Bool} {K : PySem.W.Frag} {d : DS} {hs : List (Nat × DS)} (hK : F.K = K) (hsub : SubOk F n sub) (hk : ∀ h ∈ hs, n.contains h.1 = true) {D : Ends} {σ : L2.St} {H : Hp} (h : tS F io W (sTry n sub d hs) D σ H) : tS F io (wMany K W D (hvals F io hs)) d D σ H := by
  obtain ⟨G, Fr, ρ, S, q⟩ := h
  refine ⟨G, Fr, ρ, S, ?_⟩
  unfold sTry at q
  cases ed : d ρ with
  | nx ρ1 => rw [ed] at q; exact q
  | rt p ρ1 => rw [ed] at q; exact q
  | stuck => rw [ed] at q; exact q
  | exc c as ρ1 =>
    rw [ed] at q
    have q : PostS F io W Fr G D (if n.contains c = true then hndl sub hs c as ρ1 else .stuck) := q
    by_cases l : n.contains c = true
    · rw [if_pos l] at q
      exact fun dd σ' G' H' e S' xa => hndl_ok hK hsub l S' xa hk (PostS.gle e q)
    · rw [if_neg l] at q
      exact q.elim
theorem st_try {n : List Nat} {sub : Nat → Nat → Bool} {body : List Stmt} {h₀ : ExceptHandler} {hds : List ExceptHandler} {d : DS} {hs : List (Nat × DS)} (hK : F.K = X.K) (hsub : SubOk F n sub) (hk : (hs.all fun h => n.contains h.1) = true) (hst : X.stack = X.env :: X.outer) (hf : X.env.frame = some X.env.locals) (tk : Takes X W)
    (hb : ∀ (W : WX) (pn : List (Addr × Obj)) (xe : Value → Shared → Prop), Takes (X.tr pn xe) W → PSs (X.tr pn xe) body (tS F io W d)) (hh : HdsOk X (h₀ :: hds) (hvals F io hs)) : PS X (.Try body (h₀ :: hds) [] [] pos) (tS F io W (sTry n sub d hs)) :=
  (ps_try_many (tb := fun W => tS F io W d) hst hf tk (fun W pn xe tk _ => hb W pn xe tk) hh).imp fun D σ H h => try_step hK hsub (fun h m => List.all_eq_true.mp hk h m) h
end
end Pl

set_option maxHeartbeats 4000000
/-! P8: zip, a written dict asked at once, powers, sequences of any kind walked, calls by what is known of a def. -/
namespace Pl
open PySem PySem.Spec PyProof.Rows L2 RZ

/-- a def of the text, as a caller sees it -/
def FnH (P : Program) (w : World) (K : PySem.W.Frag) (mg : Str → Option Value) (base : Heap) (k : Nat) (x : Str) (sp : Sp) : Prop :=
  ∃ f fd ps, mg x = some (.ref f) ∧ PySem.W.keepIn K (.ref f) = true ∧ Binds K fd ps [] ∧ FnOk P w K mg base (L2.CX P w) k f fd ps sp
section
variable {X : Cx} {F : Fx} {io : Option Addr} {W : WX} {a b e : Expr} {es : List Expr} {pos : Pos}
theorem _root_.L2.Room.u65 {k : Nat} {A : Around} (r : Room k A) : A.units + 65 < cLine := by have := r.un; omega
theorem pc {k : Nat} {φ : List PV → FR} {x : Str} {p : Pos} {d : DD (List PV)} {n : Nat} [L : LenA d n] (h : FnH X.prog X.w X.K X.mg X.base k x (spP F n φ)) (tk : Takes X W) (hr : Room k X.A) (hg : Gl X x) (ha : PA X (e :: es) (tA F io W d)) (hn : (e :: es).length = n := by rfl) (hdb : (x == ("__debug__" : Str)) = false := by decide)
    (he : starEach (e :: es) X.env = (false, eval e X.env) :: starEach es X.env := by rfl) (hpl : (backTo pos (starEach es X.env)).any (·.1) = false := by rfl) : PE X (.Call (.Name x p) (e :: es) [] pos) (tE F io W (dCall φ d)) := by
  obtain ⟨f, fd, ps, hm, hk, hb, G⟩ := h
  refine ⟨fun pins s σ H Q I q => ?_⟩
  refine (pe_callS (E := fun σ => WE W σ) G hr hg hm hk hb (fun σ => passAt tk σ) ha hdb he hpl).run pins s σ H Q I ?_
  obtain ⟨G, Fr, ρ, S, q⟩ := q
  refine ⟨G, Fr, ρ, S, ?_⟩
  have q : Post (Rep F) F io W Fr G σ Q ((d ρ).bind fun xs ρ => match φ xs with
    | .ok r => .ok r ρ
    | .exc c as => .exc c as ρ
    | .stuck => .stuck) := q
  cases ed : d ρ with
  | stuck => rw [ed] at q; exact q
  | exc c as ρ1 => rw [ed] at q; exact q
  | ok xs ρ1 =>
    rw [ed] at q
    intro vs G1 H1 e1 S1 r1
    refine ⟨by rw [← r1.length]; exact L.len _ _ _ ed, G1, xs, S1.sub, r1, ?_⟩
    have q : Post (Rep F) F io W Fr G σ Q (match φ xs with
      | .ok r => .ok r ρ1
      | .exc c as => .exc c as ρ1
      | .stuck => .stuck) := q
    cases ef : φ xs with
    | ok r =>
      rw [ef] at q
      exact fun v G2 H2 g r2 => q v G2 H2 (e1.trans g.gle) (S1.grow g) r2
    | exc c as =>
      rw [ef] at q
      exact fun dd G2 H2 g x2 => q dd G2 H2 (e1.trans g.gle) (S1.grow g) x2
    | stuck => rw [ef] at q; exact q
theorem pci {k : Nat} {φ : PV → List PV → FRI} {x : Str} {p p1 : Pos} {i : Nat} {y : Str} {d : DD (List PV)} {n : Nat} [L : LenA d n] (h : FnH X.prog X.w X.K X.mg X.base k x (spI F (n + 1) φ)) (tk : Takes X W) (hr : Room k X.A) (hg : Gl X x) (hv : PE X (.Name y p1) (tVar i)) (ha : PA X es (tA F io W d)) (hdb : (x == ("__debug__" : Str)) = false := by decide)
    (he : starEach (.Name y p1 :: es) X.env = (false, eval (.Name y p1) X.env) :: starEach es X.env := by rfl) (hpl : (backTo pos (starEach es X.env)).any (·.1) = false := by rfl) : PE X (.Call (.Name x p) (.Name y p1 :: es) [] pos) (tE F io W (dCallI i φ d)) := by
  obtain ⟨f, fd, ps, hm, hk, hb, G⟩ := h
  exact pp_callI n tk G hr hm hk hb hg hv ha hdb he hpl
theorem sco {pos2 : Pos} {k : Nat} {φ : List PV → Option PV} {x y : Str} {p py : Pos} {i : Nat} {d : DD (List PV)} {n : Nat} [L : LenA d n] (h : FnH X.prog X.w X.K X.mg X.base k x (spO F n φ)) (tk : Takes X W) (hr : Room k X.A) (hN : X.N.Nodup) (hi : X.N[i]? = some y) (hy : Loc X.env.scope y) (hg : Gl X x) (ha : PA X (e :: es) (tA F io W d)) (hdb : (x == ("__debug__" : Str)) = false := by decide)
    (he : starEach (e :: es) X.env = (false, eval e X.env) :: starEach es X.env := by rfl) (hpl : (backTo pos (starEach es X.env)).any (·.1) = false := by rfl) (hs : swapsWith (.Call (.Name x p) (e :: es) [] pos) (some (.Name y py)) pos2.line X.env = pure false := by rfl)
    (hf : X.fn y = true ∨ X.env.scope.names.lookup y = some .local := by first | exact .inl rfl | exact .inr rfl | assumption) : PS X (.Assign [.Name y py] (.Call (.Name x p) (e :: es) [] pos) pos2) (tS F io W (sCallO i φ d)) := by
  obtain ⟨f, fd, ps, hm, hk, hb, G⟩ := h
  exact st_callO n tk G hr hm hk hb hN hi hy hg ha hdb he hpl hs hf

/-- a name whose object may be one's own -/
def dRd (i : Nat) : DE := fun ρ => match ρ[i]? with
  | some (some (.val p)) => .ok p ρ
  | some (some (.own c)) => .ok c (ρ.set i (some (.val c)))
  | _ => .stuck
theorem pp_rd {i : Nat} {x : Str} (hv : PE X (.Name x pos) (tVar i)) : PE X (.Name x pos) (tE F io W (dRd i)) := by
  refine ⟨fun pins s σ H Q I ⟨G, Fr, ρ, S, q⟩ => ?_⟩
  unfold dRd at q
  cases e : ρ[i]? with
  | none => rw [e] at q; exact q.elim
  | some o =>
    cases o with
    | none => rw [e] at q; exact q.elim
    | some sv =>
      cases sv with
      | val p =>
        rw [e] at q
        exact (pp_var (F := F) (io := io) (W := W) hv).run pins s σ H Q I ⟨G, Fr, ρ, S, by unfold dVar; rw [e]; exact q⟩
      | own c =>
        rw [e] at q
        exact (pp_fz (F := F) (io := io) (W := W) hv).run pins s σ H Q I ⟨G, Fr, ρ, S, by unfold dFz; rw [e]; exact q⟩
      | inp c => rw [e] at q; exact q.elim

/-! ### powers -/
def pPow : PV → PV → Option PV
  | .int i, .int j => if 0 ≤ j ∧ j ≤ 1000000 ∧ i.natAbs < 2 ^ 64 then some (.int (i ^ j.toNat)) else none
  | _, _ => none
theorem b_pow : BinOk F (rI CPow fun i j => .int (i ^ j.toNat)) pPow := by
  intro G H v u x y z Q s rx ry e k
  cases rx <;> cases ry <;> first | (exfalso; cases e; done) | skip
  obtain ⟨l, rfl⟩ := ite_some e
  exact ⟨_, _, rfl, rfl, l, k _ G H (Grow.refl s) (.int _)⟩

/-! ### a sequence of any kind, walked -/
theorem qi_seq {tg : Expr} {d : DE} (hK : F.K = X.K) (h : PE X a (tE F io W d)) : PI X tg a (tI F io W (dItems d)) := by
  refine ⟨fun pins s σ H R I ⟨G, Fr, ρ, S, q⟩ => ?_⟩
  have kind : (∃ xs ρ', d ρ = .ok (.lst xs) ρ') ∨ (∃ xs ρ', d ρ = .ok (.tup xs) ρ') ∨ (∃ c as ρ', d ρ = .exc c as ρ') := by
    unfold dItems at q
    cases ed : d ρ with
    | stuck => rw [ed] at q; exact q.elim
    | exc c as ρ1 => exact .inr (.inr ⟨c, as, ρ1, rfl⟩)
    | ok x ρ1 =>
      rw [ed] at q
      cases x with
      | lst xs => exact .inl ⟨xs, ρ1, rfl⟩
      | tup xs => exact .inr (.inl ⟨xs, ρ1, rfl⟩)
      | _ => exact q.elim
  rcases kind with ⟨xs, ρ1, ed⟩ | ⟨xs, ρ1, ed⟩ | ⟨c, as, ρ1, ed⟩
  · refine (qi_list hK h).run pins s σ H R I ⟨G, Fr, ρ, S, ?_⟩
    unfold dItems at q
    unfold dItL
    rw [ed] at q ⊢
    exact q
  · refine (qi_tup hK h).run pins s σ H R I ⟨G, Fr, ρ, S, ?_⟩
    unfold dItems at q
    unfold dItT
    rw [ed] at q ⊢
    exact q
  · refine (qi_list hK h).run pins s σ H R I ⟨G, Fr, ρ, S, ?_⟩
    unfold dItems at q
    unfold dItL
    rw [ed] at q ⊢
    exact q

/-! ### zip of two lists, of two tuples -/
def zipP : List PV → List PV → List PV
  | x :: xs, y :: ys => .tup [x, y] :: zipP xs ys
  | _, _ => []
def dZip (d : DD (List PV)) : DD (List PV) := fun ρ => (d ρ).bind fun xs ρ => match xs with
  | [.lst xs, .lst ys] => .ok (zipP xs ys) ρ
  | [.tup xs, .tup ys] => .ok (zipP xs ys) ρ
  | _ => .stuck
theorem zip_get : ∀ {xs ys : List PV} {i : Nat} {p : PV}, (zipP xs ys)[i]? = some p → ∃ x y, p = .tup [x, y] ∧ xs[i]? = some x ∧ ys[i]? = some y
  | x :: xs, y :: ys, 0, p, h => by cases h; exact ⟨x, y, rfl, rfl, rfl⟩
  | x :: xs, y :: ys, i + 1, p, h => zip_get (xs := xs) (ys := ys) (i := i) h
  | [], _, _, _, h => by cases h
  | _ :: _, [], _, _, h => by cases h
theorem zip_len : ∀ {xs ys : List PV}, (zipP xs ys).length = min xs.length ys.length
  | x :: xs, y :: ys => by
    show (zipP xs ys).length + 1 = _
    rw [zip_len]
    simp only [List.length_cons]
    omega
  | [], _ => by simp [zipP]
  | _ :: _, [] => by simp [zipP]
theorem yields_zipL {G0 : Hp} {a b : Addr} {ps qs : List PV} {vs us : List V} (h : G0 a = some (.lst vs)) (r : Reps F G0 ps vs) (h' : G0 b = some (.lst us)) (r' : Reps F G0 qs us) : Yields F (Itz F.K a b) G0 (zipP ps qs) where
  go := fun i G H hi e s => by
    rw [zip_len] at hi
    have l1 := r.length
    have l2 := r'.length
    exact ⟨vs, us, vs[i]'(by omega), us[i]'(by omega), .of (s _ _ (e _ _ h)), .of (s _ _ (e _ _ h')), by simp, by simp⟩
  yld := fun i G H H' v p hp e s y => by
    obtain ⟨T, x, z, rfl, nT, rfl, y1, y2⟩ := y
    obtain ⟨px, pz, rfl, g1, g2⟩ := zip_get hp
    obtain ⟨vx, k1, k2⟩ := r.get g1
    obtain ⟨vz, k3, k4⟩ := r'.get g2
    have e1 := y1 vs (.of (s _ _ (e _ _ h)))
    have e2 := y2 us (.of (s _ _ (e _ _ h')))
    rw [k1] at e1
    rw [k3] at e2
    cases e1
    cases e2
    have sm := e.trans (same_upd (o := .tup [x, z]) (s.free nT))
    exact ⟨_, Grow.new1 s nT, .tup (.inl (.inl upd_same)) (.cons (k2.same sm) (.cons (k4.same sm) .nil))⟩
  stop := fun G H e s => ⟨vs, us, .of (s _ _ (e _ _ h)), .of (s _ _ (e _ _ h')), by
    have l1 := r.length
    have l2 := r'.length
    rw [zip_len]
    omega⟩
theorem yields_zipT {G0 : Hp} {a b : Addr} {ps qs : List PV} {vs us : List V} (h : SqT F.K G0 a vs) (r : Reps F G0 ps vs) (h' : SqT F.K G0 b us) (r' : Reps F G0 qs us) : Yields F (ItzT F.K a b) G0 (zipP ps qs) where
  go := fun i G H hi e s => by
    rw [zip_len] at hi
    have l1 := r.length
    have l2 := r'.length
    exact ⟨vs, us, vs[i]'(by omega), us[i]'(by omega), SqT.same (e.trans s) h, SqT.same (e.trans s) h', by simp, by simp⟩
  yld := fun i G H H' v p hp e s y => by
    obtain ⟨T, x, z, rfl, nT, rfl, y1, y2⟩ := y
    obtain ⟨px, pz, rfl, g1, g2⟩ := zip_get hp
    obtain ⟨vx, k1, k2⟩ := r.get g1
    obtain ⟨vz, k3, k4⟩ := r'.get g2
    have e1 := y1 vs (SqT.same (e.trans s) h)
    have e2 := y2 us (SqT.same (e.trans s) h')
    rw [k1] at e1
    rw [k3] at e2
    cases e1
    cases e2
    have sm := e.trans (same_upd (o := .tup [x, z]) (s.free nT))
    exact ⟨_, Grow.new1 s nT, .tup (.inl (.inl upd_same)) (.cons (k2.same sm) (.cons (k4.same sm) .nil))⟩
  stop := fun G H e s => ⟨vs, us, SqT.same (e.trans s) h, SqT.same (e.trans s) h', by
    have l1 := r.length
    have l2 := r'.length
    rw [zip_len]
    omega⟩
theorem qi_zip {d : DD (List PV)} {p tpos : Pos} {elts : List Expr} {kk : Nat} (hK : F.K = X.K) (hg : Gl X "zip") (hm : X.mg "zip" = none) (ha : PA X [a, b] (tA F io W d)) (hs : starEach [a, b] X.env = (false, eval a X.env) :: starEach [b] X.env := by rfl) (hpl : (backTo pos (starEach [b] X.env)).any (·.1) = false := by rfl) :
    PI X (.Tuple elts kk tpos) (.Call (.Name "zip" p) [a, b] [] pos) (tI F io W (dZip d)) := by
  refine (pi_zipA hg hm ha hs hpl).imp fun σ H R ⟨G, Fr, ρ, S, q⟩ => ?_
  refine tD.step S q fun vs H1 G1 ρ1 xs e1 S1 r1 q1 => ?_
  cases r1 with
  | nil => exact q1.elim
  | cons r rr =>
    cases rr with
    | nil => cases r <;> exact q1.elim
    | cons r2 rr =>
      cases rr with
      | cons => cases r <;> cases r2 <;> exact q1.elim
      | nil =>
        cases r <;> cases r2 <;> first | exact q1.elim | skip
        case lst.lst ps a vs h r qs b us h' r' =>
          exact ⟨a, b, vs, us, rfl, .inl ⟨.of (S1.sub _ _ h), .of (S1.sub _ _ h'), q1 _ G1 H1 (Same.refl _) S1 (by rw [← hK]; exact yields_zipL h r h' r')⟩⟩
        case tup.tup ps a vs h r qs b us h' r' =>
          exact ⟨a, b, vs, us, rfl, .inr ⟨by rw [← hK]; exact SqT.same S1.sub h, by rw [← hK]; exact SqT.same S1.sub h', q1 _ G1 H1 (Same.refl _) S1 (by rw [← hK]; exact yields_zipT h r h' r')⟩⟩

/-! ### {'a': x, 'b': y}[z] -/
def dVals : List (Str × DE) → DD (List (Str × PV))
  | [] => fun ρ => .ok [] ρ
  | (k, d) :: r => fun ρ => (d ρ).bind fun x ρ => (dVals r ρ).bind fun xs ρ => .ok ((k, x) :: xs) ρ
def dPick (ds : List (Str × DE)) (dk : DE) : DE := fun ρ => (dVals ds ρ).bind fun kvs ρ => (dk ρ).bind fun k ρ => match k with
  | .str z => (match kvs.lookup z with
    | some p => .ok p ρ
    | none => .stuck)
  | _ => .stuck
theorem StOk.fr {Fr1 G Fr H : Hp} {σ : L2.St} {ρ : Rho} (S : StOk F io G Fr1 H σ ρ) (e : Same Fr Fr1) : StOk F io G Fr H σ ρ :=
  ⟨S.sub, e.trans S.fsub, fun a o h => e.free (S.dis a o h), S.len, S.val, fun i c h => by
    obtain ⟨a, h1, h2, h3, h4, h5⟩ := S.own i c h
    exact ⟨a, h1, h2, e.free h3, h4, h5⟩, S.sep, fun a h => by
    obtain ⟨h1, h2, h3⟩ := S.iot a h
    exact ⟨h1, e.free h2, h3⟩, S.inp, S.one⟩
theorem Post.fr {α β : Type} {R : Hp → α → β → Prop} {Fr1 G Fr : Hp} {σ : L2.St} {Q : β → Hp → Prop} (e : Same Fr Fr1) : ∀ {r : Res α}, Post R F io W Fr G σ Q r → Post R F io W Fr1 G σ Q r
  | .ok r ρ, h => fun v G1 H1 e1 S => h v G1 H1 e1 (S.fr e)
  | .exc c as ρ, h => fun d G1 H1 e1 S => h d G1 H1 e1 (S.fr e)
  | .stuck, h => h
def prs : List (Str × PV) → List V → List (V × V)
  | q :: qs, u :: us => (.str q.1, u) :: prs qs us
  | _, _ => []
def prK : List (Str × PV) → List V → List (Key × V)
  | q :: qs, u :: us => (.inr q.1, u) :: prK qs us
  | _, _ => []
theorem prs_map : ∀ (qs : List (Str × PV)) (us : List V), prs qs us = (prK qs us).map fun kv => (kV kv.1, kv.2)
  | q :: qs, u :: us => by
    show (V.str q.1, u) :: prs qs us = (V.str q.1, u) :: (prK qs us).map _
    rw [prs_map qs us]
  | [], _ => rfl
  | _ :: _, [] => rfl
theorem prK_len : ∀ {qs : List (Str × PV)} {us : List V}, qs.length = us.length → (prK qs us).length = qs.length
  | q :: qs, u :: us, h => congrArg (· + 1) (prK_len (Nat.succ.inj h))
  | [], [], _ => rfl
  | _ :: _, [], h => by cases h
  | [], _ :: _, h => by cases h
theorem prK_keys : ∀ {qs : List (Str × PV)} {us : List V}, qs.length = us.length → (prK qs us).map (·.1) = qs.map fun q => Sum.inr q.1
  | q :: qs, u :: us, h => by
    show Sum.inr q.1 :: (prK qs us).map _ = _
    rw [prK_keys (Nat.succ.inj h)]
    rfl
  | [], [], _ => rfl
  | _ :: _, [], h => by cases h
  | [], _ :: _, h => by cases h
theorem valV_none {kvs : List (Key × V)} {k : Key} (h : k ∉ kvs.map (·.1)) : valV kvs k = none := by
  unfold valV
  have : kvs.find? (fun kv => decide (kv.1 = k)) = none := by
    rw [List.find?_eq_none]
    intro x hx he
    exact h (List.mem_map.mpr ⟨x, hx, of_decide_eq_true he⟩)
  rw [this]
  rfl
theorem merge_nodup : ∀ (more acc : List (Key × V)), ((acc ++ more).map (·.1)).Nodup → mergeK acc more = acc ++ more
  | [], acc, _ => by rw [List.append_nil]; rfl
  | q :: qs, acc, h => by
    show mergeK (putK acc q.1 q.2) qs = _
    have hn : q.1 ∉ acc.map (·.1) := by
      rw [List.map_append, List.nodup_append] at h
      intro hm
      exact h.2.2 q.1 hm q.1 (by simp) rfl
    rw [putK_new _ (valV_none hn), merge_nodup qs _ (by simpa using h)]
    simp
theorem valV_prK {G : Hp} {z : Str} : ∀ {qs : List (Str × PV)} {us : List V} {p : PV}, Reps F G (qs.map (·.2)) us → qs.lookup z = some p → ∃ v, valV (prK qs us) (Sum.inr z) = some v ∧ Rep F G p v
  | q :: qs, _, p, .cons (v := u) (vs := us) h r, e => by
    have e : (match z == q.1 with
      | true => some q.2
      | false => List.lookup z qs) = some p := e
    by_cases c : z = q.1
    · subst c
      rw [beq_self_eq_true] at e
      cases e
      refine ⟨u, ?_, h⟩
      show (List.find? (fun kv : Key × V => decide (kv.1 = Sum.inr q.1)) ((Sum.inr q.1, u) :: prK qs us)).map (·.2) = some u
      rw [List.find?_cons]
      simp
    · rw [beq_eq_false_iff_ne.mpr c] at e
      obtain ⟨v, h1, h2⟩ := valV_prK r e
      refine ⟨v, ?_, h2⟩
      show (List.find? (fun kv : Key × V => decide (kv.1 = Sum.inr z)) ((Sum.inr q.1, u) :: prK qs us)).map (·.2) = some v
      rw [List.find?_cons]
      have : decide ((Sum.inr q.1 : Key) = Sum.inr z) = false := decide_eq_false fun h => c (Sum.inr.inj h).symm
      simp only [this]
      exact h1
  | [], _, _, _, e => by cases e
theorem pairs_step {β : Type} {R : Hp → PV → β → Prop} {Fr Fr1 : Hp} {σ : L2.St} {Q : β → Hp → Prop} (ef : Same Fr Fr1) : ∀ (ds : List (Str × DE)) {G H : Hp} {ρ : Rho} {k : List (Str × PV) → Rho → Res PV} {Q1 : List (V × V) → Hp → Prop}, StOk F io G Fr1 H σ ρ → Post R F io W Fr G σ Q ((dVals ds ρ).bind k) →
    (∀ us H1 G1 ρ1 kvs, Same G G1 → StOk F io G1 Fr1 H1 σ ρ1 → Reps F G1 (kvs.map (·.2)) us → Post R F io W Fr G1 σ Q (k kvs ρ1) → kvs.map (·.1) = ds.map (·.1) → Q1 (prs kvs us) H1) → tPairs (ds.map fun q => (tC (.str q.1), tE F io W q.2)) σ H Q1
  | [], G, H, ρ, k, Q1, S, q, f => f [] H G ρ [] (Same.refl _) S .nil q rfl
  | (n, d) :: ds, G, H, ρ, k, Q1, S, q, f => by
    have q : Post R F io W Fr G σ Q (((d ρ).bind fun x ρ => (dVals ds ρ).bind fun xs ρ => .ok ((n, x) :: xs) ρ).bind k) := q
    refine ⟨G, Fr1, ρ, S, ?_⟩
    dsimp only
    cases ed : d ρ with
    | exc c as ρ1 =>
      rw [ed] at q
      exact fun dd G' H' e S' x => q dd G' H' e (S'.fr ef) x
    | stuck => rw [ed] at q; exact q.elim
    | ok x ρ1 =>
      rw [ed] at q
      intro u G1 H1 e1 S1 r1
      have q1 : Post R F io W Fr G1 σ Q ((dVals ds ρ1).bind fun xs ρ => k ((n, x) :: xs) ρ) := by
        have q := Post.gle e1 q
        have eb : (Res.bind ((dVals ds ρ1).bind fun xs ρ => .ok ((n, x) :: xs) ρ) k) = (dVals ds ρ1).bind fun xs ρ => k ((n, x) :: xs) ρ := by cases dVals ds ρ1 <;> rfl
        rw [← eb]
        exact q
      refine pairs_step ef ds S1 q1 fun us H2 G2 ρ2 kvs e2 S2 r2 q2 hk => ?_
      exact f (u :: us) H2 G2 ρ2 ((n, x) :: kvs) (e1.trans e2) S2 (.cons (r1.same e2) r2) q2 (congrArg (n :: ·) hk)
theorem StOk.fr_add {G Fr H : Hp} {σ : L2.St} {ρ : Rho} {p : Addr} {o : HO} (S : StOk F io G Fr H σ ρ) (hp : H p = some o) (hG : G p = none) (nI : io ≠ some p) (no : ∀ (j : Nat) (d : PV), ρ[j]? = some (some (SV.own d)) → σ[j]? ≠ some (some (V.ref p))) : StOk F io G (upd Fr p o) H σ ρ := by
  refine ⟨S.sub, fun b u h => ?_, fun b u h => ?_, S.len, S.val, fun i c e => ?_, S.sep, fun b e => ?_, S.inp, S.one⟩
  · by_cases z : b = p
    · subst z
      rw [upd_same] at h
      cases h
      exact hp
    · rw [upd_ne z] at h
      exact S.fsub b u h
  · rw [upd_ne (fun z => by rw [z, hG] at h; cases h)]
    exact S.dis b u h
  · obtain ⟨b, h1, h2, h3, h4, h5⟩ := S.own i c e
    refine ⟨b, h1, h2, ?_, h4, h5⟩
    rw [upd_ne (fun z => no i c e (by rw [← z]; exact h1))]
    exact h3
  · obtain ⟨h1, h2, u, hu⟩ := S.iot b e
    refine ⟨h1, ?_, u, hu⟩
    rw [upd_ne (fun z => nI (by rw [← z]; exact e))]
    exact h2
theorem StOk.apart {G Fr H : Hp} {σ : L2.St} {ρ : Rho} {p : Addr} {o : HO} (S : StOk F io G Fr H σ ρ) (h : Fr p = some o) : G p = none ∧ io ≠ some p ∧ ∀ (j : Nat) (d : PV), ρ[j]? = some (some (SV.own d)) → σ[j]? ≠ some (some (V.ref p)) := by
  refine ⟨?_, fun e => ?_, fun j d e h1 => ?_⟩
  · cases c : G p with
    | none => rfl
    | some u =>
      have := S.dis p u c
      rw [h] at this
      cases this
  · obtain ⟨_, h2, _⟩ := S.iot p e
    rw [h] at h2
    cases h2
  · obtain ⟨b, g1, _, g3, _, _⟩ := S.own j d e
    rw [h1] at g1
    cases g1
    rw [h] at g3
    cases g3
theorem pp_pick {keys : List (Option Expr)} {values : List Expr} {ds : List (Str × DE)} {dk : DE} {p2 : Pos} (hu : X.A.units + 1 < cLine) (hp : PPs X p2 keys values (ds.map fun q => (tC (.str q.1), tE F io W q.2))) (hall : keys.all (·.isSome) = true) (hl : keys.length = values.length) (h0 : keys ≠ []) (h15 : keys.length ≤ 15)
    (hd15 : ds.length ≤ 15) (hnd : (ds.map (·.1)).Nodup) (h : PE X a (tE F io W dk)) (hs : NoSl a) : PE X (.Subscript (.Dict keys values p2) a pos) (tE F io W (dPick ds dk)) := by
  refine (pe_dget hu (pe_disp hp hall hl h0 h15) h hs).imp fun σ H Q ⟨G, Fr, ρ, S, q⟩ => ?_
  intro p np
  have nF := S.fsub.free np
  have S1 := S.grow (Grow.new0 (o := .dK []) S.sub np)
  have io0 : io ≠ some p := fun e => by
    obtain ⟨_, _, u, hu⟩ := S.iot p e
    rw [np] at hu
    cases hu
  have no0 : ∀ (j : Nat) (d : PV), ρ[j]? = some (some (SV.own d)) → σ[j]? ≠ some (some (V.ref p)) := fun j d e h1 => by
    obtain ⟨b, g1, _, _, g4, _⟩ := S.own j d e
    rw [h1] at g1
    cases g1
    obtain ⟨u, hu⟩ := g4.there
    rw [np] at hu
    cases hu
  have S0 := S1.fr_add (o := .dK []) upd_same (S.sub.free np) io0 no0
  refine pairs_step (same_upd nF) ds S0 q fun us H1 G1 ρ1 kvs e1 S1 r1 q1 hk => ?_
  have hlen : kvs.length = us.length := by simpa using r1.length
  have hkl : kvs.length = ds.length := by simpa using congrArg List.length hk
  refine ⟨S1.fsub p _ upd_same, prK kvs us, prs_map _ _, by rw [prK_len hlen, hkl]; exact hd15, ?_⟩
  have hm : mergeK [] (prK kvs us) = prK kvs us := by
    rw [merge_nodup _ _ (by
      rw [List.nil_append, prK_keys hlen]
      have e2 : (kvs.map fun q => (Sum.inr q.1 : Key)) = (ds.map (·.1)).map Sum.inr := by rw [← hk, List.map_map]; rfl
      rw [e2]
      exact List.Pairwise.map _ (fun x y h e => h (Sum.inr.inj e)) hnd)]
    rfl
  rw [hm]
  obtain ⟨a1, a2, a3⟩ := S1.apart (p := p) upd_same
  have S2 := (S1.fr (same_upd nF)).upd_at (o := .dK (prK kvs us)) a1 nF a2 a3
  have S3 := S2.fr_add (o := .dK (prK kvs us)) upd_same a1 a2 a3
  refine tD.step S3 (Post.fr (same_upd nF) q1) fun u H4 G4 ρ4 x e4 S4 r4 q4 => ?_
  cases r4 <;> first | exact q4.elim | skip
  case str z =>
    have q4 : Post (Rep F) F io W (upd Fr p (.dK (prK kvs us))) G4 σ Q (match kvs.lookup z with
      | some p => Res.ok p ρ4
      | none => .stuck) := q4
    cases c : kvs.lookup z with
    | none => rw [c] at q4; exact q4.elim
    | some pz =>
      rw [c] at q4
      obtain ⟨v, g1, g2⟩ := valV_prK r1 c
      exact ⟨p, v, rfl, .inl ⟨_, Sum.inr z, .inl (S4.fsub p _ upd_same), rfl, g1.symm⟩, q4.done S4 (g2.same e4)⟩
end
end Pl

set_option maxHeartbeats 4000000
/-! P9: not x by truth; fewer classes of errors. -/
namespace Pl
open PySem PySem.Spec PyProof.Rows L2
section
variable {X : Cx} {F : Fx} {io : Option Addr} {W : WX} {a b e : Expr} {es : List Expr} {pos : Pos}
def dNotT (d : DE) : DE := fun ρ => (d ρ).bind fun x ρ => ofO ((truth x).map fun b => .bl (!b)) ρ
theorem pp_notT {d : DE} (hK : F.K = X.K) (h : PE X a (tE F io W d)) : PE X (.UnaryOp .Not a pos) (tE F io W (dNotT d)) := by
  refine (pe_notT h).imp fun σ H Q ⟨G, Fr, ρ, S, q⟩ => ?_
  refine tD.step S q fun v H1 G1 ρ1 x e1 S1 r1 q1 => ?_
  obtain ⟨k, hk, kk⟩ := Post.ofO (γ := Unit) q1 S1
  cases ht : truth x with
  | none => rw [ht] at hk; cases hk
  | some b =>
    rw [ht] at hk
    cases hk
    exact ⟨b, tru_of hK S1.sub r1 ht, kk _ G1 H1 (Grow.refl S1.sub) (.bl _)⟩
theorem SubOk.of {n m : List Nat} {sub : Nat → Nat → Bool} (h : SubOk F n sub) (hs : (m.all fun c => n.contains c) = true) : SubOk F m sub := fun c k hc hk =>
  h c k (List.all_eq_true.mp hs c (List.contains_iff_mem.mp hc)) (List.all_eq_true.mp hs k (List.contains_iff_mem.mp hk))
end
theorem blkC_of {N N' : List Str} {sc sc' scope : Scope} {own : List (Str × Nat)} (h1 : N = N') (h2 : sc = sc') (h : blkC N' sc' scope own = true) : BlkOk N sc scope own := by
  subst h1; subst h2; exact blkOk_by h
end Pl

set_option maxHeartbeats 4000000
/-! what the defs of the text and of the law mean (printed by gen.py). -/
namespace Pl
open PySem PySem.Spec PyProof.Rows L2

set_option genInjectivity false in
set_option genSizeOfSpec false in
structure Env where
  p_is_whole : List PV → FR
  p_are_numbers : List PV → FR
  p_is_nested : List PV → FR
  p_is_region : List PV → FR
  p_check_region : List PV → FR
  p_is_number : List PV → FR
  p_check_sheet : List PV → FR
  p_check_small : List PV → FR
  p_check_cell : List PV → FR
  p_is_of_row : List PV → FR
  p_plain_has : List PV → FR
  p_moved_has : List PV → FR
  p_cell_has : List PV → FR
  p_has : List PV → FR
  p_drawn : List PV → FR
  o_l_begin : List PV → Option PV
  i_l_draw : PV → List PV → FRI
  i_l_plain : PV → List PV → FRI
  i_l_region : PV → List PV → FRI
  p_l_row : List PV → FR
  p_l_has : List PV → FR
  p_l_cells : List PV → FR
  p_l_refused : List PV → FR
  p_law_k01 : List PV → FR
def tb_PLAIN : List (Str × PV) := [("all", (.tup [])), ("none", (.tup [])), ("high", (.tup [(.str "a")])), ("wide", (.tup [(.str "a")])), ("rows", (.tup [(.str "a"), (.str "k")])), ("rows_up", (.tup [(.str "a"), (.str "k")])), ("cols", (.tup [(.str "a"), (.str "k")])), ("cols_back", (.tup [(.str "a"), (.str "k")])), ("border", (.tup [(.str "a")]))]

def tb_INNER : List (Str × PV) := [("and", (.int 2)), ("or", (.int 2)), ("not", (.int 1)), ("mirror", (.int 1)), ("flip", (.int 1)), ("turn", (.int 1))]

def SUB (c k : Nat) : Bool := c == k || k == 0

def d_is_whole (E : Env) : DS :=
  (sRet (dAndV (dIsi "int" (dVar 0)) (dAndV (dNotV (dIsi "bool" (dVar 0))) (dChain pLe pLe (dVar 1) (dVar 0) (dVar 2)))))
def d_are_numbers (E : Env) : DS :=
  (sSeq (sIf (dAsB (dBin pNe (dFun fLen (dCons (dVar 1) dNil)) (dFun fLen (dCons (dVar 0) dNil)))) (sRet (dC (.bl false))) sNil)
    (sRet (dFun fAll (dCons (dComp [2, 3] (.tup [2, 3]) (dZip (dCons (dVar 0) (dCons (dVar 1) dNil))) tyesD (dCall E.p_is_whole (dCons (dVar 3) (dCons (dC (.int 0)) (dCons (dIf (dAsB (dBin pEq (dVar 2) (dC (.str "a")))) (dC (.int 9)) (dC (.int 6))) dNil))))) dNil))))
def d_is_nested (E : Env) : DS :=
  (sSeq (sIf (dOr (dAsB (dBin pEq (dVar 1) (dC (.int 0)))) (dOr (dNot (dTru (dIsi "tuple" (dVar 0)))) (dOr (dNot (dTru (dVar 0))) (dNot (dTru (dIsi "str" (dBin pIx (dVar 0) (dC (.int 0))))))))) (sRet (dC (.bl false))) sNil)
    (sSeq (sIf (dAsB (dUn (pInT tb_PLAIN) (dBin pIx (dVar 0) (dC (.int 0))))) (sRet (dCall E.p_are_numbers (dCons (dGetT tb_PLAIN (dBin pIx (dVar 0) (dC (.int 0)))) (dCons (dSl (dVar 0) (some (dC (.int 1))) none) dNil)))) sNil)
    (sSeq (sIf (dAsB (dUn (pInT tb_INNER) (dBin pIx (dVar 0) (dC (.int 0))))) (sRet (dAndV (dBin pEq (dFun fLen (dCons (dVar 0) dNil)) (dBin pAdd (dC (.int 1)) (dGetT tb_INNER (dBin pIx (dVar 0) (dC (.int 0)))))) (dFun fAll (dCons (dComp [2] (.one 2) (dItems (dSl (dVar 0) (some (dC (.int 1))) none)) tyesD (dCall E.p_is_nested (dCons (dVar 2) (dCons (dBin pSub (dVar 1) (dC (.int 1))) dNil)))) dNil)))) sNil)
    (sSeq (sIf (dOr (dAsB (dBin pNe (dBin pIx (dVar 0) (dC (.int 0))) (dC (.str "move")))) (dOr (dAsB (dBin pNe (dFun fLen (dCons (dVar 0) dNil)) (dC (.int 4)))) (dNot (dTru (dFun fAll (dCons (dComp [2] (.one 2) (dItems (dSl (dVar 0) (some (dC (.int 1))) (some (dC (.int 3))))) tyesD (dCall E.p_is_whole (dCons (dVar 2) (dCons (dUn pNeg (dC (.int 6))) (dCons (dC (.int 6)) dNil))))) dNil)))))) (sRet (dC (.bl false))) sNil)
    (sRet (dCall E.p_is_nested (dCons (dBin pIx (dVar 0) (dC (.int 3))) (dCons (dBin pSub (dVar 1) (dC (.int 1))) dNil))))))))
def d_is_region (E : Env) : DS :=
  (sRet (dCall E.p_is_nested (dCons (dVar 0) (dCons (dC (.int 8)) dNil))))
def d_check_region (E : Env) : DS :=
  (sIf (dNot (dTru (dCall E.p_is_region (dCons (dVar 0) dNil)))) (sRaise 1) sNil)
def d_is_number (E : Env) : DS :=
  (sRet (dAndV (dIsi "int" (dVar 0)) (dAndV (dNotV (dIsi "bool" (dVar 0))) (dChain pLe pLt (dVar 1) (dVar 0) (dVar 2)))))
def d_check_sheet (E : Env) : DS :=
  (sIf (dOr (dNot (dTru (dCall E.p_is_number (dCons (dVar 0) (dCons (dC (.int 1)) (dCons (dC (.int 10000000000000000000000000000000000000000)) dNil)))))) (dNot (dTru (dCall E.p_is_number (dCons (dVar 1) (dCons (dC (.int 1)) (dCons (dC (.int 10000000000000000000000000000000000000000)) dNil))))))) (sRaise 2) sNil)
def d_check_small (E : Env) : DS :=
  (sIf (dOr (dNot (dTru (dCall E.p_is_number (dCons (dVar 0) (dCons (dC (.int 1)) (dCons (dBin pAdd (dC (.int 60)) (dC (.int 1))) dNil)))))) (dNot (dTru (dCall E.p_is_number (dCons (dVar 1) (dCons (dC (.int 1)) (dCons (dBin pAdd (dC (.int 60)) (dC (.int 1))) dNil))))))) (sRaise 2) sNil)
def d_check_cell (E : Env) : DS :=
  (sSeq (sExpr (dCall E.p_check_sheet (dCons (dVar 0) (dCons (dVar 1) dNil))))
    (sIf (dOr (dNot (dTru (dCall E.p_is_number (dCons (dVar 2) (dCons (dC (.int 0)) (dCons (dVar 0) dNil)))))) (dNot (dTru (dCall E.p_is_number (dCons (dVar 3) (dCons (dC (.int 0)) (dCons (dVar 1) dNil))))))) (sRaise 2) sNil))
def d_is_of_row (E : Env) : DS :=
  (sSeq (sIf (dAsB (dBin pEq (dVar 2) (dC (.int 0)))) (sRet (dBin pEq (dVar 0) (dVar 1))) sNil)
    (sRet (dAndV (dBin pGe (dVar 0) (dVar 1)) (dBin pEq (dBin pMod (dBin pSub (dVar 0) (dVar 1)) (dVar 2)) (dC (.int 0))))))
def d_plain_has (E : Env) : DS :=
  (sSeq (sSet 5 (dBin pIx (dVar 0) (dC (.int 0))))
    (sSeq (sIf (dAsB (dBin pIn (dVar 5) (dTup (dCons (dC (.str "all")) (dCons (dC (.str "none")) dNil))))) (sRet (dBin pEq (dVar 5) (dC (.str "all")))) sNil)
    (sSeq (sIf (dAsB (dBin pIn (dVar 5) (dTup (dCons (dC (.str "high")) (dCons (dC (.str "wide")) dNil))))) (sRet (dBin pGe (dIf (dAsB (dBin pEq (dVar 5) (dC (.str "high")))) (dVar 1) (dVar 2)) (dBin pIx (dVar 0) (dC (.int 1))))) sNil)
    (sSeq (sIf (dAsB (dBin pEq (dVar 5) (dC (.str "border")))) (sRet (dBin pLt (dFun fMin4 (dCons (dVar 3) (dCons (dBin pSub (dBin pSub (dVar 1) (dC (.int 1))) (dVar 3)) (dCons (dVar 4) (dCons (dBin pSub (dBin pSub (dVar 2) (dC (.int 1))) (dVar 4)) dNil))))) (dBin pIx (dVar 0) (dC (.int 1))))) sNil)
    (sSeq (sSet 6 (dPick [("rows", (dVar 3)), ("rows_up", (dBin pSub (dBin pSub (dVar 1) (dC (.int 1))) (dVar 3))), ("cols", (dVar 4)), ("cols_back", (dBin pSub (dBin pSub (dVar 2) (dC (.int 1))) (dVar 4)))] (dVar 5)))
    (sRet (dCall E.p_is_of_row (dCons (dVar 6) (dCons (dBin pIx (dVar 0) (dC (.int 1))) (dCons (dBin pIx (dVar 0) (dC (.int 2))) dNil))))))))))
def d_moved_has (E : Env) : DS :=
  (sSeq (sPar 5 6 (dCons (dBin pSub (dVar 3) (dBin pIx (dVar 0) (dC (.int 1)))) (dCons (dBin pSub (dVar 4) (dBin pIx (dVar 0) (dC (.int 2)))) dNil)))
    (sRet (dAndV (dChain pLe pLt (dC (.int 0)) (dVar 5) (dVar 1)) (dAndV (dChain pLe pLt (dC (.int 0)) (dVar 6) (dVar 2)) (dCall E.p_cell_has (dCons (dBin pIx (dVar 0) (dC (.int 3))) (dCons (dVar 1) (dCons (dVar 2) (dCons (dVar 5) (dCons (dVar 6) dNil))))))))))
def d_cell_has (E : Env) : DS :=
  (sSeq (sSet 5 (dBin pIx (dVar 0) (dC (.int 0))))
    (sSeq (sIf (dAsB (dBin pEq (dVar 5) (dC (.str "and")))) (sRet (dAndV (dCall E.p_cell_has (dCons (dBin pIx (dVar 0) (dC (.int 1))) (dCons (dVar 1) (dCons (dVar 2) (dCons (dVar 3) (dCons (dVar 4) dNil)))))) (dCall E.p_cell_has (dCons (dBin pIx (dVar 0) (dC (.int 2))) (dCons (dVar 1) (dCons (dVar 2) (dCons (dVar 3) (dCons (dVar 4) dNil)))))))) sNil)
    (sSeq (sIf (dAsB (dBin pEq (dVar 5) (dC (.str "or")))) (sRet (dOrV (dCall E.p_cell_has (dCons (dBin pIx (dVar 0) (dC (.int 1))) (dCons (dVar 1) (dCons (dVar 2) (dCons (dVar 3) (dCons (dVar 4) dNil)))))) (dCall E.p_cell_has (dCons (dBin pIx (dVar 0) (dC (.int 2))) (dCons (dVar 1) (dCons (dVar 2) (dCons (dVar 3) (dCons (dVar 4) dNil)))))))) sNil)
    (sSeq (sIf (dAsB (dBin pEq (dVar 5) (dC (.str "not")))) (sRet (dNotV (dCall E.p_cell_has (dCons (dBin pIx (dVar 0) (dC (.int 1))) (dCons (dVar 1) (dCons (dVar 2) (dCons (dVar 3) (dCons (dVar 4) dNil)))))))) sNil)
    (sSeq (sIf (dAsB (dBin pEq (dVar 5) (dC (.str "mirror")))) (sRet (dCall E.p_cell_has (dCons (dBin pIx (dVar 0) (dC (.int 1))) (dCons (dVar 1) (dCons (dVar 2) (dCons (dBin pSub (dBin pSub (dVar 1) (dC (.int 1))) (dVar 3)) (dCons (dVar 4) dNil))))))) sNil)
    (sSeq (sIf (dAsB (dBin pEq (dVar 5) (dC (.str "flip")))) (sRet (dCall E.p_cell_has (dCons (dBin pIx (dVar 0) (dC (.int 1))) (dCons (dVar 1) (dCons (dVar 2) (dCons (dVar 3) (dCons (dBin pSub (dBin pSub (dVar 2) (dC (.int 1))) (dVar 4)) dNil))))))) sNil)
    (sSeq (sIf (dAsB (dBin pEq (dVar 5) (dC (.str "turn")))) (sRet (dCall E.p_cell_has (dCons (dBin pIx (dVar 0) (dC (.int 1))) (dCons (dVar 2) (dCons (dVar 1) (dCons (dVar 4) (dCons (dVar 3) dNil))))))) sNil)
    (sRet (dIf (dAsB (dBin pEq (dVar 5) (dC (.str "move")))) (dCall E.p_moved_has (dCons (dVar 0) (dCons (dVar 1) (dCons (dVar 2) (dCons (dVar 3) (dCons (dVar 4) dNil)))))) (dCall E.p_plain_has (dCons (dVar 0) (dCons (dVar 1) (dCons (dVar 2) (dCons (dVar 3) (dCons (dVar 4) dNil)))))))))))))))
def d_has (E : Env) : DS :=
  (sSeq (sExpr (dCall E.p_check_region (dCons (dVar 0) dNil)))
    (sSeq (sExpr (dCall E.p_check_cell (dCons (dVar 1) (dCons (dVar 2) (dCons (dVar 3) (dCons (dVar 4) dNil))))))
    (sRet (dCall E.p_cell_has (dCons (dVar 0) (dCons (dVar 1) (dCons (dVar 2) (dCons (dVar 3) (dCons (dVar 4) dNil)))))))))
def d_drawn (E : Env) : DS :=
  (sSeq (sExpr (dCall E.p_check_region (dCons (dVar 0) dNil)))
    (sSeq (sExpr (dCall E.p_check_small (dCons (dVar 1) (dCons (dVar 2) dNil))))
    (sSeq (sNewL 3 dNil)
    (sSeq (sFor (.one 4) (dRange1 (dCons (dVar 1) dNil)) (sApp' 3 (dBinS pJoin (dC (.str "")) (dComp [5] (.one 5) (dRange1 (dCons (dVar 2) dNil)) tyesD (dIf (dTru (dCall E.p_cell_has (dCons (dVar 0) (dCons (dVar 1) (dCons (dVar 2) (dCons (dVar 4) (dCons (dVar 5) dNil))))))) (dC (.str "#")) (dC (.str ".")))))))
    (sRet (dRd 3))))))
def d_l_begin (E : Env) : DD (List PV) :=
  (dCons (dFun fList (dCons (dVar 0) dNil)) (dCons (dC (.int 0)) (dCons (dC (.int 0)) (dCons (dC (.int 7)) dNil))))
def d_l_draw (E : Env) : DS :=
  (sSeq (sIf (dAsB (dBin pEq (dIxM 0 (dC (.int 2))) (dC (.int 0)))) (sIf (dAsB (dBin pLt (dIxM 0 (dC (.int 1))) (dFun fLen (dCons (dIxM 0 (dC (.int 0))) dNil)))) (sSeq (sSet 2 (dBin pIx (dIxM 0 (dC (.int 0))) (dIxM 0 (dC (.int 1)))))
    (sSeq (sPut 0 (dBin pAdd (dIxM 0 (dC (.int 1))) (dC (.int 1))) (dC (.int 1)))
    (sIf (dAsB (dBin pGe (dVar 2) (dBin pPow (dC (.int 10)) (dC (.int 18))))) (sPut 0 (dVar 2) (dC (.int 2))) (sPut 0 (dBin pMod (dFun fInt (dCons (dBin pAdd (dBin pAdd (dBin pMul (dIxM 0 (dC (.int 3))) (dC (.int 48271))) (dBin pMul (dVar 2) (dC (.int 69621)))) (dC (.int 11))) dNil)) (dC (.int 2147483647))) (dC (.int 3)))))) (sPut 0 (dBin pMod (dFun fInt (dCons (dBin pAdd (dBin pMul (dIxM 0 (dC (.int 3))) (dC (.int 48271))) (dC (.int 7))) dNil)) (dC (.int 2147483647))) (dC (.int 3)))) sNil)
    (sSeq (sIf (dAsB (dBin pGt (dIxM 0 (dC (.int 2))) (dC (.int 0)))) (sSeq (sSet 3 (dBin pMod (dFun fInt (dCons (dIxM 0 (dC (.int 2))) dNil)) (dVar 1)))
    (sSeq (sPut 0 (dBin pDiv (dIxM 0 (dC (.int 2))) (dVar 1)) (dC (.int 2)))
    (sRet (dVar 3)))) sNil)
    (sRet (dBin pMod (dBin pMod (dFun fInt (dCons (dBin pMul (dIxM 0 (dC (.int 3))) (dC (.int 16807))) dNil)) (dC (.int 2147483629))) (dVar 1)))))
def d_l_plain (E : Env) : DS :=
  (sSeq (sSet 1 (dLst (dCons (dC (.str "rows")) (dCons (dC (.str "rows_up")) (dCons (dC (.str "cols")) (dCons (dC (.str "cols_back")) (dCons (dC (.str "border")) (dCons (dC (.str "high")) (dCons (dC (.str "wide")) (dCons (dC (.str "rows")) (dCons (dC (.str "cols")) (dCons (dC (.str "all")) dNil))))))))))))
    (sSeq (sSet 2 (dBin pIx (dVar 1) (dCallI 0 E.i_l_draw (dCons (dC (.int 10)) dNil))))
    (sSeq (sSet 3 (dCallI 0 E.i_l_draw (dCons (dC (.int 3)) dNil)))
    (sSeq (sIf (dAsB (dBin pEq (dVar 2) (dC (.str "all")))) (sRet (dTup (dCons (dBin pIx (dLst (dCons (dC (.str "all")) (dCons (dC (.str "none")) dNil))) (dCallI 0 E.i_l_draw (dCons (dC (.int 2)) dNil))) dNil))) sNil)
    (sSeq (sIf (dAsB (dBin pIn (dVar 2) (dLst (dCons (dC (.str "border")) (dCons (dC (.str "high")) (dCons (dC (.str "wide")) dNil)))))) (sRet (dTup (dCons (dVar 2) (dCons (dVar 3) dNil)))) sNil)
    (sRet (dTup (dCons (dVar 2) (dCons (dVar 3) (dCons (dBin pIx (dLst (dCons (dC (.int 0)) (dCons (dC (.int 1)) (dCons (dC (.int 2)) (dCons (dC (.int 2)) (dCons (dC (.int 3)) dNil)))))) (dCallI 0 E.i_l_draw (dCons (dC (.int 5)) dNil))) dNil))))))))))
def d_l_region (E : Env) : DS :=
  (sSeq (sSet 2 (dBin pIx (dLst (dCons (dC (.str "and")) (dCons (dC (.str "or")) (dCons (dC (.str "not")) (dCons (dC (.str "move")) (dCons (dC (.str "mirror")) (dCons (dC (.str "flip")) (dCons (dC (.str "turn")) (dCons (dC (.str "plain")) dNil))))))))) (dCallI 0 E.i_l_draw (dCons (dC (.int 8)) dNil))))
    (sSeq (sIf (dOr (dAsB (dBin pLe (dVar 1) (dC (.int 1)))) (dAsB (dBin pEq (dVar 2) (dC (.str "plain"))))) (sRet (dCallI 0 E.i_l_plain dNil)) sNil)
    (sSeq (sSet 3 (dCallI 0 E.i_l_region (dCons (dBin pSub (dVar 1) (dC (.int 1))) dNil)))
    (sSeq (sIf (dAsB (dBin pIn (dVar 2) (dLst (dCons (dC (.str "and")) (dCons (dC (.str "or")) dNil))))) (sRet (dTup (dCons (dVar 2) (dCons (dVar 3) (dCons (dCallI 0 E.i_l_region (dCons (dBin pSub (dVar 1) (dC (.int 1))) dNil)) dNil))))) sNil)
    (sSeq (sIf (dAsB (dBin pEq (dVar 2) (dC (.str "move")))) (sRet (dTup (dCons (dVar 2) (dCons (dBin pSub (dCallI 0 E.i_l_draw (dCons (dC (.int 4)) dNil)) (dC (.int 1))) (dCons (dBin pSub (dCallI 0 E.i_l_draw (dCons (dC (.int 4)) dNil)) (dC (.int 2))) (dCons (dVar 3) dNil)))))) sNil)
    (sRet (dTup (dCons (dVar 2) (dCons (dVar 3) dNil)))))))))
def d_l_row (E : Env) : DS :=
  (sSeq (sIf (dAsB (dBin pEq (dVar 2) (dC (.int 0)))) (sRet (dBin pEq (dVar 0) (dVar 1))) sNil)
    (sRet (dAndV (dBin pGe (dVar 0) (dVar 1)) (dBin pEq (dBin pMod (dBin pSub (dVar 0) (dVar 1)) (dVar 2)) (dC (.int 0))))))
def d_l_has (E : Env) : DS :=
  (sSeq (sSet 5 (dBin pIx (dVar 0) (dC (.int 0))))
    (sSeq (sIf (dAsB (dBin pIn (dVar 5) (dLst (dCons (dC (.str "all")) (dCons (dC (.str "none")) dNil))))) (sRet (dBin pEq (dVar 5) (dC (.str "all")))) sNil)
    (sSeq (sIf (dAsB (dBin pEq (dVar 5) (dC (.str "high")))) (sRet (dBin pGe (dVar 1) (dBin pIx (dVar 0) (dC (.int 1))))) sNil)
    (sSeq (sIf (dAsB (dBin pEq (dVar 5) (dC (.str "wide")))) (sRet (dBin pGe (dVar 2) (dBin pIx (dVar 0) (dC (.int 1))))) sNil)
    (sSeq (sIf (dAsB (dBin pEq (dVar 5) (dC (.str "border")))) (sRet (dOrV (dBin pLt (dVar 3) (dBin pIx (dVar 0) (dC (.int 1)))) (dOrV (dBin pLt (dVar 4) (dBin pIx (dVar 0) (dC (.int 1)))) (dOrV (dBin pLe (dBin pSub (dVar 1) (dVar 3)) (dBin pIx (dVar 0) (dC (.int 1)))) (dBin pLe (dBin pSub (dVar 2) (dVar 4)) (dBin pIx (dVar 0) (dC (.int 1)))))))) sNil)
    (sSeq (sIf (dAsB (dBin pEq (dVar 5) (dC (.str "rows")))) (sRet (dCall E.p_l_row (dCons (dVar 3) (dCons (dBin pIx (dVar 0) (dC (.int 1))) (dCons (dBin pIx (dVar 0) (dC (.int 2))) dNil))))) sNil)
    (sSeq (sIf (dAsB (dBin pEq (dVar 5) (dC (.str "rows_up")))) (sRet (dCall E.p_l_row (dCons (dBin pSub (dBin pSub (dVar 1) (dC (.int 1))) (dVar 3)) (dCons (dBin pIx (dVar 0) (dC (.int 1))) (dCons (dBin pIx (dVar 0) (dC (.int 2))) dNil))))) sNil)
    (sSeq (sIf (dAsB (dBin pEq (dVar 5) (dC (.str "cols")))) (sRet (dCall E.p_l_row (dCons (dVar 4) (dCons (dBin pIx (dVar 0) (dC (.int 1))) (dCons (dBin pIx (dVar 0) (dC (.int 2))) dNil))))) sNil)
    (sSeq (sIf (dAsB (dBin pEq (dVar 5) (dC (.str "cols_back")))) (sRet (dCall E.p_l_row (dCons (dBin pSub (dBin pSub (dVar 2) (dC (.int 1))) (dVar 4)) (dCons (dBin pIx (dVar 0) (dC (.int 1))) (dCons (dBin pIx (dVar 0) (dC (.int 2))) dNil))))) sNil)
    (sSeq (sIf (dAsB (dBin pEq (dVar 5) (dC (.str "turn")))) (sRet (dCall E.p_l_has (dCons (dBin pIx (dVar 0) (dC (.int 1))) (dCons (dVar 2) (dCons (dVar 1) (dCons (dVar 4) (dCons (dVar 3) dNil))))))) sNil)
    (sSeq (sIf (dAsB (dBin pEq (dVar 5) (dC (.str "mirror")))) (sRet (dCall E.p_l_has (dCons (dBin pIx (dVar 0) (dC (.int 1))) (dCons (dVar 1) (dCons (dVar 2) (dCons (dBin pSub (dBin pSub (dVar 1) (dC (.int 1))) (dVar 3)) (dCons (dVar 4) dNil))))))) sNil)
    (sSeq (sIf (dAsB (dBin pEq (dVar 5) (dC (.str "flip")))) (sRet (dCall E.p_l_has (dCons (dBin pIx (dVar 0) (dC (.int 1))) (dCons (dVar 1) (dCons (dVar 2) (dCons (dVar 3) (dCons (dBin pSub (dBin pSub (dVar 2) (dC (.int 1))) (dVar 4)) dNil))))))) sNil)
    (sSeq (sIf (dAsB (dBin pEq (dVar 5) (dC (.str "move")))) (sSeq (sSet 3 (dBin pSub (dVar 3) (dBin pIx (dVar 0) (dC (.int 1)))))
    (sSeq (sSet 4 (dBin pSub (dVar 4) (dBin pIx (dVar 0) (dC (.int 2)))))
    (sRet (dAndV (dChain pLe pLt (dC (.int 0)) (dVar 3) (dVar 1)) (dAndV (dChain pLe pLt (dC (.int 0)) (dVar 4) (dVar 2)) (dCall E.p_l_has (dCons (dBin pIx (dVar 0) (dC (.int 3))) (dCons (dVar 1) (dCons (dVar 2) (dCons (dVar 3) (dCons (dVar 4) dNil))))))))))) sNil)
    (sSeq (sIf (dAsB (dBin pEq (dVar 5) (dC (.str "not")))) (sRet (dNotV (dCall E.p_l_has (dCons (dBin pIx (dVar 0) (dC (.int 1))) (dCons (dVar 1) (dCons (dVar 2) (dCons (dVar 3) (dCons (dVar 4) dNil)))))))) sNil)
    (sSeq (sSet 6 (dCall E.p_l_has (dCons (dBin pIx (dVar 0) (dC (.int 1))) (dCons (dVar 1) (dCons (dVar 2) (dCons (dVar 3) (dCons (dVar 4) dNil)))))))
    (sSeq (sIf (dAsB (dBin pEq (dVar 5) (dC (.str "and")))) (sRet (dAndV (dVar 6) (dCall E.p_l_has (dCons (dBin pIx (dVar 0) (dC (.int 2))) (dCons (dVar 1) (dCons (dVar 2) (dCons (dVar 3) (dCons (dVar 4) dNil)))))))) sNil)
    (sRet (dOrV (dVar 6) (dCall E.p_l_has (dCons (dBin pIx (dVar 0) (dC (.int 2))) (dCons (dVar 1) (dCons (dVar 2) (dCons (dVar 3) (dCons (dVar 4) dNil))))))))))))))))))))))))
def d_l_cells (E : Env) : DS :=
  (sSeq (sSet 3 (dLst dNil))
    (sSeq (sFor (.one 4) (dRange1 (dCons (dVar 1) dNil)) (sSet 3 (dBin pAdd (dVar 3) (dComp [5] (.one 5) (dRange1 (dCons (dVar 2) dNil)) (dTru (dCall E.p_l_has (dCons (dVar 0) (dCons (dVar 1) (dCons (dVar 2) (dCons (dVar 4) (dCons (dVar 5) dNil))))))) (dTup (dCons (dVar 4) (dCons (dVar 5) dNil)))))))
    (sRet (dVar 3))))
def d_l_refused (E : Env) : DS :=
  (sSeq (sSet 5 (dC .non))
    (sSeq (sTry [1, 2] SUB (sExpr (dCall E.p_has (dCons (dVar 0) (dCons (dVar 1) (dCons (dVar 2) (dCons (dVar 3) (dCons (dVar 4) dNil))))))) [(1, (sSet 5 (dC (.str "region")))), (2, (sSet 5 (dC (.str "sheet"))))])
    (sRet (dVar 5))))
def d_law_k01 (E : Env) : DS :=
  (sSeq (sCallO 1 E.o_l_begin (dCons (dVar 0) dNil))
    (sSeq (sSet 2 (dCallI 1 E.i_l_region (dCons (dBin pAdd (dC (.int 1)) (dCallI 1 E.i_l_draw (dCons (dC (.int 5)) dNil))) dNil)))
    (sSeq (sAsg (.tup [3, 4]) (dTup (dCons (dBin pAdd (dC (.int 1)) (dCallI 1 E.i_l_draw (dCons (dC (.int 9)) dNil))) (dCons (dBin pAdd (dC (.int 1)) (dCallI 1 E.i_l_draw (dCons (dC (.int 9)) dNil))) dNil))))
    (sSeq (sNewL 5 dNil)
    (sSeq (sFor (.one 6) (dRange1 (dCons (dVar 3) dNil)) (sSeq (sSet 7 (dComp [8] (.one 8) (dRange1 (dCons (dVar 4) dNil)) tyesD (dIf (dTru (dCall E.p_l_has (dCons (dVar 2) (dCons (dVar 3) (dCons (dVar 4) (dCons (dVar 6) (dCons (dVar 8) dNil))))))) (dC (.str "#")) (dC (.str ".")))))
    (sApp' 5 (dBinS pJoin (dC (.str "")) (dVar 7)))))
    (sSeq (sIf (dOr (dAsB (dBin pNe (dCall E.p_drawn (dCons (dVar 2) (dCons (dVar 3) (dCons (dVar 4) dNil)))) (dRd 5))) (dNot (dTru (dCall E.p_is_region (dCons (dVar 2) dNil))))) (sRet (dC (.bl false))) sNil)
    (sSeq (sAsg (.tup [6, 8]) (dTup (dCons (dCallI 1 E.i_l_draw (dCons (dVar 3) dNil)) (dCons (dCallI 1 E.i_l_draw (dCons (dVar 4) dNil)) dNil))))
    (sSeq (sIf (dAsB (dBin pNe (dCall E.p_has (dCons (dVar 2) (dCons (dVar 3) (dCons (dVar 4) (dCons (dVar 6) (dCons (dVar 8) dNil)))))) (dCall E.p_l_has (dCons (dVar 2) (dCons (dVar 3) (dCons (dVar 4) (dCons (dVar 6) (dCons (dVar 8) dNil)))))))) (sRet (dC (.bl false))) sNil)
    (sSeq (sSet 9 (dTup (dCons (dC (.str "all")) dNil)))
    (sSeq (sFor (.one 10) (dRange1 (dCons (dC (.int 8)) dNil)) (sSet 9 (dTup (dCons (dC (.str "not")) (dCons (dVar 9) dNil)))))
    (sSeq (sSet 11 (dLst (dCons (dC .non) (dCons (dC (.str "all")) (dCons (dTup (dCons (dC (.str "all")) (dCons (dC (.int 1)) dNil))) (dCons (dTup (dCons (dC (.str "rows")) (dCons (dC (.int 1)) dNil))) (dCons (dTup (dCons (dC (.str "rows")) (dCons (dUn pNeg (dC (.int 1))) (dCons (dC (.int 1)) dNil)))) (dCons (dTup (dCons (dC (.str "rows")) (dCons (dC (.int 10)) (dCons (dC (.int 1)) dNil)))) (dCons (dTup (dCons (dC (.str "rows")) (dCons (dC (.int 1)) (dCons (dC (.int 7)) dNil)))) (dCons (dTup (dCons (dC (.str "border")) dNil)) dNil))))))))))
    (sSeq (sSet 11 (dBin pAdd (dVar 11) (dLst (dCons (dVar 9) (dCons (dTup (dCons (dC (.str "and")) (dCons (dTup (dCons (dC (.str "all")) dNil)) dNil))) (dCons (dTup (dCons (dC (.str "not")) (dCons (dTup (dCons (dC (.str "all")) dNil)) (dCons (dTup (dCons (dC (.str "all")) dNil)) dNil)))) (dCons (dTup (dCons (dC (.str "move")) (dCons (dC (.int 7)) (dCons (dC (.int 0)) (dCons (dTup (dCons (dC (.str "all")) dNil)) dNil))))) dNil)))))))
    (sSeq (sSet 11 (dBin pAdd (dVar 11) (dLst (dCons (dTup (dCons (dC (.str "move")) (dCons (dC (.int 1)) (dCons (dTup (dCons (dC (.str "all")) dNil)) dNil)))) (dCons (dLst (dCons (dC (.str "all")) dNil)) (dCons (dTup (dCons (dC (.str "high")) (dCons (dC (.bl true)) dNil))) (dCons (dTup (dCons (dC (.str "Rows")) (dCons (dC (.int 1)) (dCons (dC (.int 1)) dNil)))) (dCons (dTup (dCons (dC (.str "or")) (dCons (dTup (dCons (dC (.str "all")) dNil)) (dCons (dC .non) dNil)))) (dCons (dTup dNil) dNil)))))))))
    (sSeq (sSet 11 (dBin pAdd (dVar 11) (dLst (dCons (dTup (dCons (dC (.str "turn")) dNil)) (dCons (dTup (dCons (dC (.str "rows")) (dCons (dC (.int 1)) (dCons (dC (.bl true)) dNil)))) (dCons (dTup (dCons (dTup (dCons (dC (.str "all")) dNil)) dNil)) dNil))))))
    (sSeq (sSet 12 (dBin pIx (dVar 11) (dCallI 1 E.i_l_draw (dCons (dFun fLen (dCons (dVar 11) dNil)) dNil))))
    (sSeq (sIf (dOr (dTru (dCall E.p_is_region (dCons (dVar 12) dNil))) (dAsB (dBin pNe (dCall E.p_l_refused (dCons (dVar 12) (dCons (dC (.int 2)) (dCons (dC (.int 2)) (dCons (dC (.int 0)) (dCons (dC (.int 0)) dNil)))))) (dC (.str "region"))))) (sRet (dC (.bl false))) sNil)
    (sSeq (sNewL 13 (dCons (dTup (dCons (dC (.int 0)) (dCons (dC (.int 2)) (dCons (dC (.int 0)) (dCons (dC (.int 0)) dNil))))) (dCons (dTup (dCons (dC (.int 2)) (dCons (dC (.int 0)) (dCons (dC (.int 0)) (dCons (dC (.int 0)) dNil))))) (dCons (dTup (dCons (dC (.int 2)) (dCons (dC (.int 2)) (dCons (dC (.int 2)) (dCons (dC (.int 0)) dNil))))) (dCons (dTup (dCons (dC (.int 2)) (dCons (dC (.int 2)) (dCons (dC (.int 0)) (dCons (dC (.int 2)) dNil))))) (dCons (dTup (dCons (dC (.int 2)) (dCons (dC (.int 2)) (dCons (dUn pNeg (dC (.int 1))) (dCons (dC (.int 0)) dNil))))) (dCons (dTup (dCons (dC (.int 2)) (dCons (dC (.int 2)) (dCons (dC (.int 0)) (dCons (dC .non) dNil))))) dNil)))))))
    (sSeq (sApp' 13 (dTup (dCons (dC (.bl true)) (dCons (dC (.int 2)) (dCons (dC (.int 0)) (dCons (dC (.int 0)) dNil))))))
    (sSeq (sAsg (.tup [3, 4, 6, 8]) (dBin pIx (dRd 13) (dCallI 1 E.i_l_draw (dCons (dFun fLen (dCons (dRd 13) dNil)) dNil))))
    (sRet (dBin pEq (dCall E.p_l_refused (dCons (dVar 2) (dCons (dVar 3) (dCons (dVar 4) (dCons (dVar 6) (dCons (dVar 8) dNil)))))) (dC (.str "sheet")))))))))))))))))))))))
def Env.next (E : Env) : Env where
  p_is_whole := runB 3 (d_is_whole E)
  p_are_numbers := runB 4 (d_are_numbers E)
  p_is_nested := runB 3 (d_is_nested E)
  p_is_region := runB 1 (d_is_region E)
  p_check_region := runB 1 (d_check_region E)
  p_is_number := runB 3 (d_is_number E)
  p_check_sheet := runB 2 (d_check_sheet E)
  p_check_small := runB 2 (d_check_small E)
  p_check_cell := runB 4 (d_check_cell E)
  p_is_of_row := runB 3 (d_is_of_row E)
  p_plain_has := runB 7 (d_plain_has E)
  p_moved_has := runB 7 (d_moved_has E)
  p_cell_has := runB 6 (d_cell_has E)
  p_has := runB 5 (d_has E)
  p_drawn := runB 6 (d_drawn E)
  o_l_begin := runO 1 (d_l_begin E)
  i_l_draw := runI 4 (d_l_draw E)
  i_l_plain := runI 4 (d_l_plain E)
  i_l_region := runI 4 (d_l_region E)
  p_l_row := runB 3 (d_l_row E)
  p_l_has := runB 7 (d_l_has E)
  p_l_cells := runB 6 (d_l_cells E)
  p_l_refused := runB 6 (d_l_refused E)
  p_law_k01 := runB 14 (d_law_k01 E)
def Env.zero : Env where
  p_is_whole := fun _ => .stuck
  p_are_numbers := fun _ => .stuck
  p_is_nested := fun _ => .stuck
  p_is_region := fun _ => .stuck
  p_check_region := fun _ => .stuck
  p_is_number := fun _ => .stuck
  p_check_sheet := fun _ => .stuck
  p_check_small := fun _ => .stuck
  p_check_cell := fun _ => .stuck
  p_is_of_row := fun _ => .stuck
  p_plain_has := fun _ => .stuck
  p_moved_has := fun _ => .stuck
  p_cell_has := fun _ => .stuck
  p_has := fun _ => .stuck
  p_drawn := fun _ => .stuck
  o_l_begin := fun _ => none
  i_l_draw := fun _ _ => .stuck
  i_l_plain := fun _ _ => .stuck
  i_l_region := fun _ _ => .stuck
  p_l_row := fun _ => .stuck
  p_l_has := fun _ => .stuck
  p_l_cells := fun _ => .stuck
  p_l_refused := fun _ => .stuck
  p_law_k01 := fun _ => .stuck
def env : Nat → Env
  | 0 => .zero
  | n + 1 => (env n).next
end Pl

set_option maxHeartbeats 4000000
/-! printed by gen.py: the defs of law k01 mean what D0 says. -/
namespace Pl
open PySem PySem.Spec PyProof.Rows L2 RZ

def top (i : Nat) : Stmt := PySem.Challenge.pw_anysheet_k01_regions_on_sheets.main.body.getD i (.Pass ⟨0, 0, 0, 0⟩)
def dfs : List He.DefD := [⟨("is_whole", none), "is_whole", "is_whole", defArgs (top 8), defBody (top 8), defScope (top 8), [], []⟩,
  ⟨("are_numbers", none), "are_numbers", "are_numbers", defArgs (top 9), defBody (top 9), defScope (top 9), [], []⟩,
  ⟨("is_nested", none), "is_nested", "is_nested", defArgs (top 10), defBody (top 10), defScope (top 10), [], []⟩,
  ⟨("is_region", none), "is_region", "is_region", defArgs (top 11), defBody (top 11), defScope (top 11), [], []⟩,
  ⟨("check_region", none), "check_region", "check_region", defArgs (top 12), defBody (top 12), defScope (top 12), [], []⟩,
  ⟨("is_number", none), "is_number", "is_number", defArgs (top 16), defBody (top 16), defScope (top 16), [], []⟩,
  ⟨("check_sheet", none), "check_sheet", "check_sheet", defArgs (top 17), defBody (top 17), defScope (top 17), [], []⟩,
  ⟨("check_small", none), "check_small", "check_small", defArgs (top 18), defBody (top 18), defScope (top 18), [], []⟩,
  ⟨("check_cell", none), "check_cell", "check_cell", defArgs (top 19), defBody (top 19), defScope (top 19), [], []⟩,
  ⟨("is_of_row", none), "is_of_row", "is_of_row", defArgs (top 20), defBody (top 20), defScope (top 20), [], []⟩,
  ⟨("plain_has", none), "plain_has", "plain_has", defArgs (top 21), defBody (top 21), defScope (top 21), [], []⟩,
  ⟨("moved_has", none), "moved_has", "moved_has", defArgs (top 22), defBody (top 22), defScope (top 22), [], []⟩,
  ⟨("cell_has", none), "cell_has", "cell_has", defArgs (top 23), defBody (top 23), defScope (top 23), [], []⟩,
  ⟨("has", none), "has", "has", defArgs (top 24), defBody (top 24), defScope (top 24), [], []⟩,
  ⟨("drawn", none), "drawn", "drawn", defArgs (top 25), defBody (top 25), defScope (top 25), [], []⟩,
  ⟨("_law_begin", none), "_law_begin", "_law_begin", defArgs (top 27), defBody (top 27), defScope (top 27), [], []⟩,
  ⟨("_law_draw", none), "_law_draw", "_law_draw", defArgs (top 28), defBody (top 28), defScope (top 28), [], []⟩,
  ⟨("_law_plain", none), "_law_plain", "_law_plain", defArgs (top 29), defBody (top 29), defScope (top 29), [], []⟩,
  ⟨("_law_region", none), "_law_region", "_law_region", defArgs (top 30), defBody (top 30), defScope (top 30), [], []⟩,
  ⟨("_law_row", none), "_law_row", "_law_row", defArgs (top 31), defBody (top 31), defScope (top 31), [], []⟩,
  ⟨("_law_has", none), "_law_has", "_law_has", defArgs (top 32), defBody (top 32), defScope (top 32), [], []⟩,
  ⟨("_law_cells", none), "_law_cells", "_law_cells", defArgs (top 33), defBody (top 33), defScope (top 33), [], []⟩,
  ⟨("_law_refused", none), "_law_refused", "_law_refused", defArgs (top 34), defBody (top 34), defScope (top 34), [], []⟩,
  ⟨("law", none), "law", "law", defArgs (top 35), defBody (top 35), defScope (top 35), [], []⟩]
def fcs : List He.Fa := [.glo "is_whole", .glo "are_numbers", .glo "is_nested", .glo "is_region", .glo "check_region", .glo "is_number", .glo "check_sheet", .glo "check_small", .glo "check_cell", .glo "is_of_row", .glo "plain_has", .glo "moved_has", .glo "cell_has", .glo "has", .glo "drawn", .glo "_law_begin", .glo "_law_draw", .glo "_law_plain", .glo "_law_region", .glo "_law_row", .glo "_law_has", .glo "_law_cells", .glo "_law_refused", .glo "law", .free "all", .free "bool", .free "int", .free "isinstance", .free "len", .free "list", .free "min", .free "range", .free "str", .free "tuple", .free "zip", .glo "INNER", .int "MOST_DEEP" 8, .int "MOST_DRAWN" 60, .int "MOST_FIGURES" 10000000000000000000000000000000000000000, .glo "PLAIN", .exc "SheetError", .exc "BadRegion", .exc "BadSheet", .glo "SheetError", .glo "BadRegion", .glo "BadSheet", .exm "SheetError" "SheetError" true, .exm "SheetError" "BadRegion" false, .exm "SheetError" "BadSheet" false, .exm "BadRegion" "SheetError" true, .exm "BadRegion" "BadRegion" true, .exm "BadRegion" "BadSheet" false, .exm "BadSheet" "SheetError" true, .exm "BadSheet" "BadRegion" false, .exm "BadSheet" "BadSheet" true]
def tbs : List He.Tab := [(fun K => He.ga K "INNER", ["and", "or", "not", "mirror", "flip", "turn"]), (fun K => He.ga K "PLAIN", ["all", "none", "high", "wide", "rows", "rows_up", "cols", "cols_back", "border"])]
def exs (K : PySem.W.Frag) : Bool := tabB K (He.ga K "INNER") tb_INNER && (tabB K (He.ga K "PLAIN") tb_PLAIN)
def clsN : Nat → Str
  | 0 => "SheetError"
  | 1 => "BadRegion"
  | 2 => "BadSheet"
  | 3 => "NoCell"
  | 4 => "BadPicture"
  | 5 => "NothingDone"
  | 6 => "BadText"
  | 7 => "BadLine"
  | 8 => "Counter"
  | 9 => "Region"
  | 10 => "Board"
  | _ => "law"
def clsF : Nat → List Str
  | 7 => ["line"]
  | 8 => ["tree", "rows", "columns", "n", "m", "step", "edge"]
  | 9 => ["region"]
  | 10 => ["n", "m", "paints", "rows"]
  | _ => []
def fx (K : PySem.W.Frag) (w : World) : Fx := ⟨K, w, fun i => He.ga K (clsN i), clsF⟩
structure Txt (K : PySem.W.Frag) (w : World) (mg : Str → Option Value) : Prop where
  sy : He.SaysT fcs dfs tbs w K
  n_all : mg "all" = none
  n_bool : mg "bool" = none
  n_int : mg "int" = none
  n_isinstance : mg "isinstance" = none
  n_len : mg "len" = none
  n_list : mg "list" = none
  n_min : mg "min" = none
  n_range : mg "range" = none
  n_str : mg "str" = none
  n_tuple : mg "tuple" = none
  n_zip : mg "zip" = none
  g_INNER : mg "INNER" = some (.ref (He.ga K "INNER"))
  k_INNER : TabOk (fx K w) (He.ga K "INNER") tb_INNER
  g_MOST_DEEP : ∃ t, mg "MOST_DEEP" = some (.int 8 t)
  g_MOST_DRAWN : ∃ t, mg "MOST_DRAWN" = some (.int 60 t)
  g_MOST_FIGURES : ∃ t, mg "MOST_FIGURES" = some (.int 10000000000000000000000000000000000000000 t)
  g_PLAIN : mg "PLAIN" = some (.ref (He.ga K "PLAIN"))
  k_PLAIN : TabOk (fx K w) (He.ga K "PLAIN") tb_PLAIN
  m_SheetError : mg "SheetError" = some (.ref (He.ga K "SheetError"))
  x_SheetError : PySem.W.excIn K (He.ga K "SheetError") He.veBase "ValueError.__new__" = true ∧ PySem.W.keepIn K (.ref (He.ga K "SheetError")) = true ∧ PySem.W.subIn K (.ref (He.ga K "SheetError")) (.type "BaseException") = some true ∧
    PySem.W.typeIn K (.ref (He.ga K "SheetError")) = some (.type "type")
  m_BadRegion : mg "BadRegion" = some (.ref (He.ga K "BadRegion"))
  x_BadRegion : PySem.W.excIn K (He.ga K "BadRegion") He.veBase "ValueError.__new__" = true ∧ PySem.W.keepIn K (.ref (He.ga K "BadRegion")) = true ∧ PySem.W.subIn K (.ref (He.ga K "BadRegion")) (.type "BaseException") = some true ∧
    PySem.W.typeIn K (.ref (He.ga K "BadRegion")) = some (.type "type")
  m_BadSheet : mg "BadSheet" = some (.ref (He.ga K "BadSheet"))
  x_BadSheet : PySem.W.excIn K (He.ga K "BadSheet") He.veBase "ValueError.__new__" = true ∧ PySem.W.keepIn K (.ref (He.ga K "BadSheet")) = true ∧ PySem.W.subIn K (.ref (He.ga K "BadSheet")) (.type "BaseException") = some true ∧
    PySem.W.typeIn K (.ref (He.ga K "BadSheet")) = some (.type "type")
  subs : SubOk (fx K w) [0, 1, 2] SUB
section
variable {P : Program} {w : World} {K : PySem.W.Frag} {mg : Str → Option Value} {base : Heap} {h : Heap}
theorem txt_of (X : K.In h) (G : h.Ns mainGlobals mg) (c : He.SaysT fcs dfs tbs w K) (m : exs K = true) : Txt K w mg := by
  have e := m
  unfold exs at e
  simp only [Bool.and_eq_true] at e
  have f := fun (i : Nat) (f : He.Fa) (hf : fcs[i]? = some f) => c.d.fact i (f := f) hf
  refine ⟨c, He.free_ok X G (f 24 (.free "all") rfl), He.free_ok X G (f 25 (.free "bool") rfl), He.free_ok X G (f 26 (.free "int") rfl), He.free_ok X G (f 27 (.free "isinstance") rfl), He.free_ok X G (f 28 (.free "len") rfl), He.free_ok X G (f 29 (.free "list") rfl), He.free_ok X G (f 30 (.free "min") rfl), He.free_ok X G (f 31 (.free "range") rfl), He.free_ok X G (f 32 (.free "str") rfl), He.free_ok X G (f 33 (.free "tuple") rfl), He.free_ok X G (f 34 (.free "zip") rfl), He.glo_ok X G (f 35 (.glo "INNER") rfl), ⟨c.tab 0 (t := (fun K => He.ga K "INNER", ["and", "or", "not", "mirror", "flip", "turn"])) rfl, e.1⟩, He.int_ok X G (f 36 (.int "MOST_DEEP" 8) rfl), He.int_ok X G (f 37 (.int "MOST_DRAWN" 60) rfl), He.int_ok X G (f 38 (.int "MOST_FIGURES" 10000000000000000000000000000000000000000) rfl), He.glo_ok X G (f 39 (.glo "PLAIN") rfl), ⟨c.tab 1 (t := (fun K => He.ga K "PLAIN", ["all", "none", "high", "wide", "rows", "rows_up", "cols", "cols_back", "border"])) rfl, e.2⟩, He.glo_ok X G (f 43 (.glo "SheetError") rfl), He.exc_ok (f 40 (.exc "SheetError") rfl), He.glo_ok X G (f 44 (.glo "BadRegion") rfl), He.exc_ok (f 41 (.exc "BadRegion") rfl), He.glo_ok X G (f 45 (.glo "BadSheet") rfl), He.exc_ok (f 42 (.exc "BadSheet") rfl), ?sub⟩
  case sub =>
    intro a b ha hb
    have ha : a ∈ ([0, 1, 2] : List Nat) := List.contains_iff_mem.mp ha
    have hb : b ∈ ([0, 1, 2] : List Nat) := List.contains_iff_mem.mp hb
    simp only [List.mem_cons, List.mem_nil_iff, or_false] at ha hb
    rcases ha with rfl | rfl | rfl <;> rcases hb with rfl | rfl | rfl
    · exact He.exm_ok (f 46 (.exm "SheetError" "SheetError" true) rfl)
    · exact He.exm_ok (f 47 (.exm "SheetError" "BadRegion" false) rfl)
    · exact He.exm_ok (f 48 (.exm "SheetError" "BadSheet" false) rfl)
    · exact He.exm_ok (f 49 (.exm "BadRegion" "SheetError" true) rfl)
    · exact He.exm_ok (f 50 (.exm "BadRegion" "BadRegion" true) rfl)
    · exact He.exm_ok (f 51 (.exm "BadRegion" "BadSheet" false) rfl)
    · exact He.exm_ok (f 52 (.exm "BadSheet" "SheetError" true) rfl)
    · exact He.exm_ok (f 53 (.exm "BadSheet" "BadRegion" false) rfl)
    · exact He.exm_ok (f 54 (.exm "BadSheet" "BadSheet" true) rfl)
theorem Txt.e_BadRegion (T : Txt K w mg) (X : Cx) (hK : X.K = K := by rfl) (hm : X.mg = mg := by rfl) : ExcC X "BadRegion" ((fx K w).cls 1) := by
  subst hK
  subst hm
  exact ⟨T.m_BadRegion, T.x_BadRegion.1, T.x_BadRegion.2.1, raises_own T.x_BadRegion.2.2.1 T.x_BadRegion.2.2.2⟩
theorem Txt.e_BadSheet (T : Txt K w mg) (X : Cx) (hK : X.K = K := by rfl) (hm : X.mg = mg := by rfl) : ExcC X "BadSheet" ((fx K w).cls 2) := by
  subst hK
  subst hm
  exact ⟨T.m_BadSheet, T.x_BadSheet.1, T.x_BadSheet.2.1, raises_own T.x_BadSheet.2.2.1 T.x_BadSheet.2.2.2⟩
structure Lv (P : Program) (w : World) (K : PySem.W.Frag) (mg : Str → Option Value) (base : Heap) (k : Nat) : Prop where
  f_is_whole : FnH P w K mg base k "is_whole" (spP (fx K w) 3 (env k).p_is_whole)
  f_are_numbers : FnH P w K mg base k "are_numbers" (spP (fx K w) 2 (env k).p_are_numbers)
  f_is_nested : FnH P w K mg base k "is_nested" (spP (fx K w) 2 (env k).p_is_nested)
  f_is_region : FnH P w K mg base k "is_region" (spP (fx K w) 1 (env k).p_is_region)
  f_check_region : FnH P w K mg base k "check_region" (spP (fx K w) 1 (env k).p_check_region)
  f_is_number : FnH P w K mg base k "is_number" (spP (fx K w) 3 (env k).p_is_number)
  f_check_sheet : FnH P w K mg base k "check_sheet" (spP (fx K w) 2 (env k).p_check_sheet)
  f_check_small : FnH P w K mg base k "check_small" (spP (fx K w) 2 (env k).p_check_small)
  f_check_cell : FnH P w K mg base k "check_cell" (spP (fx K w) 4 (env k).p_check_cell)
  f_is_of_row : FnH P w K mg base k "is_of_row" (spP (fx K w) 3 (env k).p_is_of_row)
  f_plain_has : FnH P w K mg base k "plain_has" (spP (fx K w) 5 (env k).p_plain_has)
  f_moved_has : FnH P w K mg base k "moved_has" (spP (fx K w) 5 (env k).p_moved_has)
  f_cell_has : FnH P w K mg base k "cell_has" (spP (fx K w) 5 (env k).p_cell_has)
  f_has : FnH P w K mg base k "has" (spP (fx K w) 5 (env k).p_has)
  f_drawn : FnH P w K mg base k "drawn" (spP (fx K w) 3 (env k).p_drawn)
  f_l_begin : FnH P w K mg base k "_law_begin" (spO (fx K w) 1 (env k).o_l_begin)
  f_l_draw : FnH P w K mg base k "_law_draw" (spI (fx K w) 2 (env k).i_l_draw)
  f_l_plain : FnH P w K mg base k "_law_plain" (spI (fx K w) 1 (env k).i_l_plain)
  f_l_region : FnH P w K mg base k "_law_region" (spI (fx K w) 2 (env k).i_l_region)
  f_l_row : FnH P w K mg base k "_law_row" (spP (fx K w) 3 (env k).p_l_row)
  f_l_has : FnH P w K mg base k "_law_has" (spP (fx K w) 5 (env k).p_l_has)
  f_l_cells : FnH P w K mg base k "_law_cells" (spP (fx K w) 3 (env k).p_l_cells)
  f_l_refused : FnH P w K mg base k "_law_refused" (spP (fx K w) 5 (env k).p_l_refused)
  f_law_k01 : FnH P w K mg base k "law" (spP (fx K w) 1 (env k).p_law_k01)
variable (T : Txt K w mg) (X0 : K.In h) (G0 : h.Ns mainGlobals mg)
theorem sc_is_whole : FnScope ["thing", "least", "most"] ["thing", "least", "most"] (defScope (top 8)) := ⟨rfl, rfl, rfl, by decide +kernel, rfl, by decide +kernel, by decide +kernel⟩
include T X0 G0 in
theorem fo_is_whole {k : Nat} {fd : FuncData} (h : Lv P w K mg base k) (FD2 : FunD K "is_whole" "is_whole" (defArgs (top 8)) (defBody (top 8)) (defScope (top 8)) [] [] (He.ga K "is_whole") fd) : FnOk P w K mg base (L2.CX P w) (k + 1) (He.ga K "is_whole") fd ["thing", "least", "most"] (spP (fx K w) 3 (env (k + 1)).p_is_whole) := by
  have e0 : (env (k + 1)).p_is_whole = runB 3 (d_is_whole (env k)) := rfl
  rw [e0]
  have q0 := fn_pure (P := P) (w := w) (mg := mg) (base := base) (k := k) (F := fx K w) (d := d_is_whole (env k)) FD2 sc_is_whole
  refine q0 fun cdv A outer s H E hr => ?_
  have nd := sc_is_whole.nd
  refine ss_one ?_
  · refine st_ret ?_
    · refine pp_and ?_ ?_
      · refine pp_isi rfl (by decide) T.n_isinstance rfl T.n_int (by decide +kernel) rfl (by decide) (by decide) ?_ (by rfl) (by rfl) (by rfl)
        · exact pp_var (pv 0)
      · refine pp_and ?_ ?_
        · refine pp_not ?_
          · refine pp_isi rfl (by decide) T.n_isinstance rfl T.n_bool (by decide +kernel) rfl (by decide) (by decide) ?_ (by rfl) (by rfl) (by rfl)
            · exact pp_var (pv 0)
        · refine pp_one ?_
          · refine pp_chain op_le op_le c_le c_le.bin ?_ ?_ ?_ (by with_unfolding_all rfl)
            · exact pp_var (pv 1)
            · exact pp_var (pv 0)
            · exact pp_var (pv 2)
include T X0 G0 in
theorem ok_is_whole {k : Nat} (h : Lv P w K mg base k) : FnH P w K mg base (k + 1) "is_whole" (spP (fx K w) 3 (env (k + 1)).p_is_whole) := by
  obtain ⟨fd, FD⟩ := T.sy.d.def_ 0 (d := ⟨("is_whole", none), "is_whole", "is_whole", defArgs (top 8), defBody (top 8), defScope (top 8), [], []⟩) rfl
  exact ⟨_, fd, ["thing", "least", "most"], He.glo_ok X0 G0 (T.sy.d.fact 0 (f := .glo "is_whole") rfl), FD.kp, FD.bindsN (fun _ _ _ _ _ _ us hl => match us, hl with | [_, _, _], _ => rfl), fo_is_whole T X0 G0 h FD⟩
theorem sc_are_numbers : FnScope ["signs", "things", "sign", "thing"] ["signs", "things"] (defScope (top 9)) := ⟨rfl, rfl, rfl, by decide +kernel, rfl, by decide +kernel, by decide +kernel⟩
include T X0 G0 in
theorem fo_are_numbers {k : Nat} {fd : FuncData} (h : Lv P w K mg base k) (FD2 : FunD K "are_numbers" "are_numbers" (defArgs (top 9)) (defBody (top 9)) (defScope (top 9)) [] [] (He.ga K "are_numbers") fd) : FnOk P w K mg base (L2.CX P w) (k + 1) (He.ga K "are_numbers") fd ["signs", "things"] (spP (fx K w) 2 (env (k + 1)).p_are_numbers) := by
  have e0 : (env (k + 1)).p_are_numbers = runB 4 (d_are_numbers (env k)) := rfl
  rw [e0]
  have q0 := fn_pure (P := P) (w := w) (mg := mg) (base := base) (k := k) (F := fx K w) (d := d_are_numbers (env k)) FD2 sc_are_numbers
  refine q0 fun cdv A outer s H E hr => ?_
  have nd := sc_are_numbers.nd
  refine ss_cons ?_ ?_
  · refine st_if ?_ ?_ ?_
    · refine pt_cmp' (op_neD hr.units) (c_ne rfl).bin ?_ ?_ (nomark _)
      · refine pp_fun call_lenA (f_len rfl) T.n_len (by decide +kernel) rfl ?_ (by decide) (by decide) (by rfl) (by rfl)
        · refine pq_cons ?_ ?_ (by rfl)
          · exact pp_var (pv 1)
          · exact pq_nil
      · refine pp_fun call_lenA (f_len rfl) T.n_len (by decide +kernel) rfl ?_ (by decide) (by decide) (by rfl) (by rfl)
        · refine pq_cons ?_ ?_ (by rfl)
          · exact pp_var (pv 0)
          · exact pq_nil
    · refine ss_one ?_
      · refine st_ret ?_
        · exact pp_bl
    · exact ss_nil
  · refine ss_one ?_
    · refine st_ret ?_
      · refine pp_fun (cr_all rfl) f_all T.n_all (by decide +kernel) rfl ?_ (by decide) (by decide) (by rfl) (by rfl)
        · refine pq_cons ?_ ?_ (by rfl)
          · refine pp_comp (own := [("sign", 2), ("thing", 3)]) rfl nd ?_ (blkC_of (N' := ["signs", "things", "sign", "thing"]) (sc' := defScope (top 9)) rfl rfl (by decide +kernel)) (tg_tup rfl (tgs_cons (tgs_cons tgs_nil)) rfl) rfl (fun _ _ _ _ _ => (pg_tup rfl (pgs_cons (pg_name (i := 2) nd rfl (by first | exact Or.inl rfl | exact Or.inr rfl)) (pgs_cons (pg_name (i := 3) nd rfl (by first | exact Or.inl rfl | exact Or.inr rfl)) pgs_nil)))) (fun _ _ _ _ _ => ?_) (fun _ _ _ _ _ => ?_) (by intro _; rfl)
            · refine qi_zip rfl rfl T.n_zip ?_ (by rfl) (by rfl)
              · refine pq_cons ?_ ?_ (by rfl)
                · exact pp_var (pv 0)
                · refine pq_cons ?_ ?_ (by rfl)
                  · exact pp_var (pv 1)
                  · exact pq_nil
            · exact qts_nil
            · refine pc h.f_is_whole takes0 hr rfl ?_ (by rfl) (by decide) (by rfl) (by rfl)
              · refine pq_cons ?_ ?_ (by rfl)
                · exact pp_var (pv 3)
                · refine pq_cons ?_ ?_ (by rfl)
                  · exact pp_int
                  · refine pq_cons ?_ ?_ (by rfl)
                    · refine pp_if ?_ ?_ ?_
                      · refine pt_cmp' (op_eqD hr.units) (c_eq rfl).bin ?_ ?_ (nomark _)
                        · exact pp_var (pv 2)
                        · exact pp_str
                      · exact pp_int
                      · exact pp_int
                    · exact pq_nil
          · exact pq_nil
include T X0 G0 in
theorem ok_are_numbers {k : Nat} (h : Lv P w K mg base k) : FnH P w K mg base (k + 1) "are_numbers" (spP (fx K w) 2 (env (k + 1)).p_are_numbers) := by
  obtain ⟨fd, FD⟩ := T.sy.d.def_ 1 (d := ⟨("are_numbers", none), "are_numbers", "are_numbers", defArgs (top 9), defBody (top 9), defScope (top 9), [], []⟩) rfl
  exact ⟨_, fd, ["signs", "things"], He.glo_ok X0 G0 (T.sy.d.fact 1 (f := .glo "are_numbers") rfl), FD.kp, FD.bindsN (fun _ _ _ _ _ _ us hl => match us, hl with | [_, _], _ => rfl), fo_are_numbers T X0 G0 h FD⟩
theorem sc_is_nested : FnScope ["thing", "deep", "one"] ["thing", "deep"] (defScope (top 10)) := ⟨rfl, rfl, rfl, by decide +kernel, rfl, by decide +kernel, by decide +kernel⟩
include T X0 G0 in
theorem fo_is_nested {k : Nat} {fd : FuncData} (h : Lv P w K mg base k) (FD2 : FunD K "is_nested" "is_nested" (defArgs (top 10)) (defBody (top 10)) (defScope (top 10)) [] [] (He.ga K "is_nested") fd) : FnOk P w K mg base (L2.CX P w) (k + 1) (He.ga K "is_nested") fd ["thing", "deep"] (spP (fx K w) 2 (env (k + 1)).p_is_nested) := by
  have e0 : (env (k + 1)).p_is_nested = runB 3 (d_is_nested (env k)) := rfl
  rw [e0]
  have q0 := fn_pure (P := P) (w := w) (mg := mg) (base := base) (k := k) (F := fx K w) (d := d_is_nested (env k)) FD2 sc_is_nested
  refine q0 fun cdv A outer s H E hr => ?_
  have nd := sc_is_nested.nd
  refine ss_cons ?_ ?_
  · refine st_if ?_ ?_ ?_
    · refine PW.pt ?_
      · refine qw_or ?_ ?_
        · refine pt_cmp' (op_eqD hr.units) (c_eq rfl).bin ?_ ?_ (nomark _)
          · exact pp_var (pv 1)
          · exact pp_int
        · refine qw_or ?_ ?_
          · refine qt_not ?_
            · refine pt_tru rfl ?_ (by intro _; rfl)
              · refine pp_isi rfl (by decide) T.n_isinstance rfl T.n_tuple (by decide +kernel) rfl (by decide) (by decide) ?_ (by rfl) (by rfl) (by rfl)
                · exact pp_var (pv 0)
          · refine qw_or ?_ ?_
            · refine qt_not ?_
              · refine pt_tru rfl ?_ (by intro _; rfl)
                · exact pp_var (pv 0)
            · refine qw_or1 ?_
              · refine qt_not ?_
                · refine pt_tru rfl ?_ (by intro _; rfl)
                  · refine pp_isi rfl (by decide) T.n_isinstance rfl T.n_str (by decide +kernel) rfl (by decide) (by decide) ?_ (by rfl) (by rfl) (by rfl)
                    · refine pp_ix rfl ?_ ?_ (by intro _ _; rfl)
                      · exact pp_var (pv 0)
                      · exact pp_int
    · refine ss_one ?_
      · refine st_ret ?_
        · exact pp_bl
    · exact ss_nil
  · refine ss_cons ?_ ?_
    · refine st_if ?_ ?_ ?_
      · refine pt_inT rfl rfl T.k_PLAIN T.g_PLAIN rfl ?_ (by decide)
        · refine pp_ix rfl ?_ ?_ (by intro _ _; rfl)
          · exact pp_var (pv 0)
          · exact pp_int
      · refine ss_one ?_
        · refine st_ret ?_
          · refine pc h.f_are_numbers (takes_of rfl rfl rfl rfl) hr rfl ?_ (by rfl) (by decide) (by rfl) (by rfl)
            · refine pq_cons ?_ ?_ (by rfl)
              · refine pp_getT rfl rfl T.k_PLAIN T.g_PLAIN rfl ?_ (fun _ _ => rfl) (by decide)
                · refine pp_ix rfl ?_ ?_ (by intro _ _; rfl)
                  · exact pp_var (pv 0)
                  · exact pp_int
              · refine pq_cons ?_ ?_ (by rfl)
                · refine pp_sl rfl ?_ ?_ ?_
                  · exact pp_var (pv 0)
                  · refine qo_some ?_
                    · exact pp_int
                  · exact qo_none
                · exact pq_nil
      · exact ss_nil
    · refine ss_cons ?_ ?_
      · refine st_if ?_ ?_ ?_
        · refine pt_inT rfl rfl T.k_INNER T.g_INNER rfl ?_ (by decide)
          · refine pp_ix rfl ?_ ?_ (by intro _ _; rfl)
            · exact pp_var (pv 0)
            · exact pp_int
        · refine ss_one ?_
          · refine st_ret ?_
            · refine pp_and ?_ ?_
              · refine pp_cmp (op_eqD hr.units) (c_eq rfl).bin ?_ ?_ (nomark _)
                · refine pp_fun call_lenA (f_len rfl) T.n_len (by decide +kernel) rfl ?_ (by decide) (by decide) (by rfl) (by rfl)
                  · refine pq_cons ?_ ?_ (by rfl)
                    · exact pp_var (pv 0)
                    · exact pq_nil
                · refine pp_op op_addA (b_add rfl) ?_ ?_
                  · exact pp_int
                  · refine pp_getT rfl rfl T.k_INNER T.g_INNER rfl ?_ (fun _ _ => rfl) (by decide)
                    · refine pp_ix rfl ?_ ?_ (by intro _ _; rfl)
                      · exact pp_var (pv 0)
                      · exact pp_int
              · refine pp_one ?_
                · refine pp_fun (cr_all rfl) f_all T.n_all (by decide +kernel) rfl ?_ (by decide) (by decide) (by rfl) (by rfl)
                  · refine pq_cons ?_ ?_ (by rfl)
                    · refine pp_comp (own := [("one", 2)]) rfl nd ?_ (blkC_of (N' := ["thing", "deep", "one"]) (sc' := defScope (top 10)) rfl rfl (by decide +kernel)) tg_one rfl (fun _ _ _ _ _ => (pg_name (i := 2) nd rfl (by first | exact Or.inl rfl | exact Or.inr rfl))) (fun _ _ _ _ _ => ?_) (fun _ _ _ _ _ => ?_) (by intro _; rfl)
                      · refine qi_seq rfl ?_
                        · refine pp_sl rfl ?_ ?_ ?_
                          · exact pp_var (pv 0)
                          · refine qo_some ?_
                            · exact pp_int
                          · exact qo_none
                      · exact qts_nil
                      · refine pc h.f_is_nested takes0 hr rfl ?_ (by rfl) (by decide) (by rfl) (by rfl)
                        · refine pq_cons ?_ ?_ (by rfl)
                          · exact pp_var (pv 2)
                          · refine pq_cons ?_ ?_ (by rfl)
                            · refine pp_op op_sub b_sub ?_ ?_
                              · exact pp_var (pv 1)
                              · exact pp_int
                            · exact pq_nil
                    · exact pq_nil
        · exact ss_nil
      · refine ss_cons ?_ ?_
        · refine st_if ?_ ?_ ?_
          · refine PW.pt ?_
            · refine qw_or ?_ ?_
              · refine pt_cmp' (op_neD hr.units) (c_ne rfl).bin ?_ ?_ (nomark _)
                · refine pp_ix rfl ?_ ?_ (by intro _ _; rfl)
                  · exact pp_var (pv 0)
                  · exact pp_int
                · exact pp_str
              · refine qw_or ?_ ?_
                · refine pt_cmp' (op_neD hr.units) (c_ne rfl).bin ?_ ?_ (nomark _)
                  · refine pp_fun call_lenA (f_len rfl) T.n_len (by decide +kernel) rfl ?_ (by decide) (by decide) (by rfl) (by rfl)
                    · refine pq_cons ?_ ?_ (by rfl)
                      · exact pp_var (pv 0)
                      · exact pq_nil
                  · exact pp_int
                · refine qw_or1 ?_
                  · refine qt_not ?_
                    · refine pt_tru rfl ?_ (by intro _; rfl)
                      · refine pp_fun (cr_all rfl) f_all T.n_all (by decide +kernel) rfl ?_ (by decide) (by decide) (by rfl) (by rfl)
                        · refine pq_cons ?_ ?_ (by rfl)
                          · refine pp_comp (own := [("one", 2)]) rfl nd ?_ (blkC_of (N' := ["thing", "deep", "one"]) (sc' := defScope (top 10)) rfl rfl (by decide +kernel)) tg_one rfl (fun _ _ _ _ _ => (pg_name (i := 2) nd rfl (by first | exact Or.inl rfl | exact Or.inr rfl))) (fun _ _ _ _ _ => ?_) (fun _ _ _ _ _ => ?_) (by intro _; rfl)
                            · refine qi_seq rfl ?_
                              · refine pp_sl rfl ?_ ?_ ?_
                                · exact pp_var (pv 0)
                                · refine qo_some ?_
                                  · exact pp_int
                                · refine qo_some ?_
                                  · exact pp_int
                            · exact qts_nil
                            · refine pc h.f_is_whole takes0 hr rfl ?_ (by rfl) (by decide) (by rfl) (by rfl)
                              · refine pq_cons ?_ ?_ (by rfl)
                                · exact pp_var (pv 2)
                                · refine pq_cons ?_ ?_ (by rfl)
                                  · refine pp_un un_neg u_neg ?_
                                    · exact pp_int
                                  · refine pq_cons ?_ ?_ (by rfl)
                                    · exact pp_int
                                    · exact pq_nil
                          · exact pq_nil
          · refine ss_one ?_
            · refine st_ret ?_
              · exact pp_bl
          · exact ss_nil
        · refine ss_one ?_
          · refine st_ret ?_
            · refine pc h.f_is_nested (takes_of rfl rfl rfl rfl) hr rfl ?_ (by rfl) (by decide) (by rfl) (by rfl)
              · refine pq_cons ?_ ?_ (by rfl)
                · refine pp_ix rfl ?_ ?_ (by intro _ _; rfl)
                  · exact pp_var (pv 0)
                  · exact pp_int
                · refine pq_cons ?_ ?_ (by rfl)
                  · refine pp_op op_sub b_sub ?_ ?_
                    · exact pp_var (pv 1)
                    · exact pp_int
                  · exact pq_nil
include T X0 G0 in
theorem ok_is_nested {k : Nat} (h : Lv P w K mg base k) : FnH P w K mg base (k + 1) "is_nested" (spP (fx K w) 2 (env (k + 1)).p_is_nested) := by
  obtain ⟨fd, FD⟩ := T.sy.d.def_ 2 (d := ⟨("is_nested", none), "is_nested", "is_nested", defArgs (top 10), defBody (top 10), defScope (top 10), [], []⟩) rfl
  exact ⟨_, fd, ["thing", "deep"], He.glo_ok X0 G0 (T.sy.d.fact 2 (f := .glo "is_nested") rfl), FD.kp, FD.bindsN (fun _ _ _ _ _ _ us hl => match us, hl with | [_, _], _ => rfl), fo_is_nested T X0 G0 h FD⟩
theorem sc_is_region : FnScope ["thing"] ["thing"] (defScope (top 11)) := ⟨rfl, rfl, rfl, by decide +kernel, rfl, by decide +kernel, by decide +kernel⟩
include T X0 G0 in
theorem fo_is_region {k : Nat} {fd : FuncData} (h : Lv P w K mg base k) (FD2 : FunD K "is_region" "is_region" (defArgs (top 11)) (defBody (top 11)) (defScope (top 11)) [] [] (He.ga K "is_region") fd) : FnOk P w K mg base (L2.CX P w) (k + 1) (He.ga K "is_region") fd ["thing"] (spP (fx K w) 1 (env (k + 1)).p_is_region) := by
  have e0 : (env (k + 1)).p_is_region = runB 1 (d_is_region (env k)) := rfl
  rw [e0]
  have q0 := fn_pure (P := P) (w := w) (mg := mg) (base := base) (k := k) (F := fx K w) (d := d_is_region (env k)) FD2 sc_is_region
  refine q0 fun cdv A outer s H E hr => ?_
  have nd := sc_is_region.nd
  refine ss_one ?_
  · refine st_ret ?_
    · refine pc h.f_is_nested (takes_of rfl rfl rfl rfl) hr rfl ?_ (by rfl) (by decide) (by rfl) (by rfl)
      · refine pq_cons ?_ ?_ (by rfl)
        · exact pp_var (pv 0)
        · refine pq_cons ?_ ?_ (by rfl)
          · exact pp_gint T.g_MOST_DEEP rfl (by decide)
          · exact pq_nil
include T X0 G0 in
theorem ok_is_region {k : Nat} (h : Lv P w K mg base k) : FnH P w K mg base (k + 1) "is_region" (spP (fx K w) 1 (env (k + 1)).p_is_region) := by
  obtain ⟨fd, FD⟩ := T.sy.d.def_ 3 (d := ⟨("is_region", none), "is_region", "is_region", defArgs (top 11), defBody (top 11), defScope (top 11), [], []⟩) rfl
  exact ⟨_, fd, ["thing"], He.glo_ok X0 G0 (T.sy.d.fact 3 (f := .glo "is_region") rfl), FD.kp, FD.bindsN (fun _ _ _ _ _ _ us hl => match us, hl with | [_], _ => rfl), fo_is_region T X0 G0 h FD⟩
theorem sc_check_region : FnScope ["thing"] ["thing"] (defScope (top 12)) := ⟨rfl, rfl, rfl, by decide +kernel, rfl, by decide +kernel, by decide +kernel⟩
include T X0 G0 in
theorem fo_check_region {k : Nat} {fd : FuncData} (h : Lv P w K mg base k) (FD2 : FunD K "check_region" "check_region" (defArgs (top 12)) (defBody (top 12)) (defScope (top 12)) [] [] (He.ga K "check_region") fd) : FnOk P w K mg base (L2.CX P w) (k + 1) (He.ga K "check_region") fd ["thing"] (spP (fx K w) 1 (env (k + 1)).p_check_region) := by
  have e0 : (env (k + 1)).p_check_region = runB 1 (d_check_region (env k)) := rfl
  rw [e0]
  have q0 := fn_pure (P := P) (w := w) (mg := mg) (base := base) (k := k) (F := fx K w) (d := d_check_region (env k)) FD2 sc_check_region
  refine q0 fun cdv A outer s H E hr => ?_
  have nd := sc_check_region.nd
  refine ss_one ?_
  · refine st_if ?_ ?_ ?_
    · refine qt_not ?_
      · refine pt_tru rfl ?_ (by intro _; rfl)
        · refine pc h.f_is_region (takes_of rfl rfl rfl rfl) hr rfl ?_ (by rfl) (by decide) (by rfl) (by rfl)
          · refine pq_cons ?_ ?_ (by rfl)
            · exact pp_var (pv 0)
            · exact pq_nil
    · refine ss_one ?_
      · exact st_raise (c := 1) rfl (takes_of rfl rfl rfl rfl) (T.e_BadRegion _) rfl (by decide)
    · exact ss_nil
include T X0 G0 in
theorem ok_check_region {k : Nat} (h : Lv P w K mg base k) : FnH P w K mg base (k + 1) "check_region" (spP (fx K w) 1 (env (k + 1)).p_check_region) := by
  obtain ⟨fd, FD⟩ := T.sy.d.def_ 4 (d := ⟨("check_region", none), "check_region", "check_region", defArgs (top 12), defBody (top 12), defScope (top 12), [], []⟩) rfl
  exact ⟨_, fd, ["thing"], He.glo_ok X0 G0 (T.sy.d.fact 4 (f := .glo "check_region") rfl), FD.kp, FD.bindsN (fun _ _ _ _ _ _ us hl => match us, hl with | [_], _ => rfl), fo_check_region T X0 G0 h FD⟩
theorem sc_is_number : FnScope ["thing", "least", "most"] ["thing", "least", "most"] (defScope (top 16)) := ⟨rfl, rfl, rfl, by decide +kernel, rfl, by decide +kernel, by decide +kernel⟩
include T X0 G0 in
theorem fo_is_number {k : Nat} {fd : FuncData} (h : Lv P w K mg base k) (FD2 : FunD K "is_number" "is_number" (defArgs (top 16)) (defBody (top 16)) (defScope (top 16)) [] [] (He.ga K "is_number") fd) : FnOk P w K mg base (L2.CX P w) (k + 1) (He.ga K "is_number") fd ["thing", "least", "most"] (spP (fx K w) 3 (env (k + 1)).p_is_number) := by
  have e0 : (env (k + 1)).p_is_number = runB 3 (d_is_number (env k)) := rfl
  rw [e0]
  have q0 := fn_pure (P := P) (w := w) (mg := mg) (base := base) (k := k) (F := fx K w) (d := d_is_number (env k)) FD2 sc_is_number
  refine q0 fun cdv A outer s H E hr => ?_
  have nd := sc_is_number.nd
  refine ss_one ?_
  · refine st_ret ?_
    · refine pp_and ?_ ?_
      · refine pp_isi rfl (by decide) T.n_isinstance rfl T.n_int (by decide +kernel) rfl (by decide) (by decide) ?_ (by rfl) (by rfl) (by rfl)
        · exact pp_var (pv 0)
      · refine pp_and ?_ ?_
        · refine pp_not ?_
          · refine pp_isi rfl (by decide) T.n_isinstance rfl T.n_bool (by decide +kernel) rfl (by decide) (by decide) ?_ (by rfl) (by rfl) (by rfl)
            · exact pp_var (pv 0)
        · refine pp_one ?_
          · refine pp_chain op_le op_lt c_le c_lt.bin ?_ ?_ ?_ (by with_unfolding_all rfl)
            · exact pp_var (pv 1)
            · exact pp_var (pv 0)
            · exact pp_var (pv 2)
include T X0 G0 in
theorem ok_is_number {k : Nat} (h : Lv P w K mg base k) : FnH P w K mg base (k + 1) "is_number" (spP (fx K w) 3 (env (k + 1)).p_is_number) := by
  obtain ⟨fd, FD⟩ := T.sy.d.def_ 5 (d := ⟨("is_number", none), "is_number", "is_number", defArgs (top 16), defBody (top 16), defScope (top 16), [], []⟩) rfl
  exact ⟨_, fd, ["thing", "least", "most"], He.glo_ok X0 G0 (T.sy.d.fact 5 (f := .glo "is_number") rfl), FD.kp, FD.bindsN (fun _ _ _ _ _ _ us hl => match us, hl with | [_, _, _], _ => rfl), fo_is_number T X0 G0 h FD⟩
theorem sc_check_sheet : FnScope ["n", "m"] ["n", "m"] (defScope (top 17)) := ⟨rfl, rfl, rfl, by decide +kernel, rfl, by decide +kernel, by decide +kernel⟩
include T X0 G0 in
theorem fo_check_sheet {k : Nat} {fd : FuncData} (h : Lv P w K mg base k) (FD2 : FunD K "check_sheet" "check_sheet" (defArgs (top 17)) (defBody (top 17)) (defScope (top 17)) [] [] (He.ga K "check_sheet") fd) : FnOk P w K mg base (L2.CX P w) (k + 1) (He.ga K "check_sheet") fd ["n", "m"] (spP (fx K w) 2 (env (k + 1)).p_check_sheet) := by
  have e0 : (env (k + 1)).p_check_sheet = runB 2 (d_check_sheet (env k)) := rfl
  rw [e0]
  have q0 := fn_pure (P := P) (w := w) (mg := mg) (base := base) (k := k) (F := fx K w) (d := d_check_sheet (env k)) FD2 sc_check_sheet
  refine q0 fun cdv A outer s H E hr => ?_
  have nd := sc_check_sheet.nd
  refine ss_one ?_
  · refine st_if ?_ ?_ ?_
    · refine PW.pt ?_
      · refine qw_or ?_ ?_
        · refine qt_not ?_
          · refine pt_tru rfl ?_ (by intro _; rfl)
            · refine pc h.f_is_number (takes_of rfl rfl rfl rfl) hr rfl ?_ (by rfl) (by decide) (by rfl) (by rfl)
              · refine pq_cons ?_ ?_ (by rfl)
                · exact pp_var (pv 0)
                · refine pq_cons ?_ ?_ (by rfl)
                  · exact pp_int
                  · refine pq_cons ?_ ?_ (by rfl)
                    · exact pp_gint T.g_MOST_FIGURES rfl (by decide)
                    · exact pq_nil
        · refine qw_or1 ?_
          · refine qt_not ?_
            · refine pt_tru rfl ?_ (by intro _; rfl)
              · refine pc h.f_is_number (takes_of rfl rfl rfl rfl) hr rfl ?_ (by rfl) (by decide) (by rfl) (by rfl)
                · refine pq_cons ?_ ?_ (by rfl)
                  · exact pp_var (pv 1)
                  · refine pq_cons ?_ ?_ (by rfl)
                    · exact pp_int
                    · refine pq_cons ?_ ?_ (by rfl)
                      · exact pp_gint T.g_MOST_FIGURES rfl (by decide)
                      · exact pq_nil
    · refine ss_one ?_
      · exact st_raise (c := 2) rfl (takes_of rfl rfl rfl rfl) (T.e_BadSheet _) rfl (by decide)
    · exact ss_nil
include T X0 G0 in
theorem ok_check_sheet {k : Nat} (h : Lv P w K mg base k) : FnH P w K mg base (k + 1) "check_sheet" (spP (fx K w) 2 (env (k + 1)).p_check_sheet) := by
  obtain ⟨fd, FD⟩ := T.sy.d.def_ 6 (d := ⟨("check_sheet", none), "check_sheet", "check_sheet", defArgs (top 17), defBody (top 17), defScope (top 17), [], []⟩) rfl
  exact ⟨_, fd, ["n", "m"], He.glo_ok X0 G0 (T.sy.d.fact 6 (f := .glo "check_sheet") rfl), FD.kp, FD.bindsN (fun _ _ _ _ _ _ us hl => match us, hl with | [_, _], _ => rfl), fo_check_sheet T X0 G0 h FD⟩
theorem sc_check_small : FnScope ["n", "m"] ["n", "m"] (defScope (top 18)) := ⟨rfl, rfl, rfl, by decide +kernel, rfl, by decide +kernel, by decide +kernel⟩
include T X0 G0 in
theorem fo_check_small {k : Nat} {fd : FuncData} (h : Lv P w K mg base k) (FD2 : FunD K "check_small" "check_small" (defArgs (top 18)) (defBody (top 18)) (defScope (top 18)) [] [] (He.ga K "check_small") fd) : FnOk P w K mg base (L2.CX P w) (k + 1) (He.ga K "check_small") fd ["n", "m"] (spP (fx K w) 2 (env (k + 1)).p_check_small) := by
  have e0 : (env (k + 1)).p_check_small = runB 2 (d_check_small (env k)) := rfl
  rw [e0]
  have q0 := fn_pure (P := P) (w := w) (mg := mg) (base := base) (k := k) (F := fx K w) (d := d_check_small (env k)) FD2 sc_check_small
  refine q0 fun cdv A outer s H E hr => ?_
  have nd := sc_check_small.nd
  refine ss_one ?_
  · refine st_if ?_ ?_ ?_
    · refine PW.pt ?_
      · refine qw_or ?_ ?_
        · refine qt_not ?_
          · refine pt_tru rfl ?_ (by intro _; rfl)
            · refine pc h.f_is_number (takes_of rfl rfl rfl rfl) hr rfl ?_ (by rfl) (by decide) (by rfl) (by rfl)
              · refine pq_cons ?_ ?_ (by rfl)
                · exact pp_var (pv 0)
                · refine pq_cons ?_ ?_ (by rfl)
                  · exact pp_int
                  · refine pq_cons ?_ ?_ (by rfl)
                    · refine pp_op op_addA (b_add rfl) ?_ ?_
                      · exact pp_gint T.g_MOST_DRAWN rfl (by decide)
                      · exact pp_int
                    · exact pq_nil
        · refine qw_or1 ?_
          · refine qt_not ?_
            · refine pt_tru rfl ?_ (by intro _; rfl)
              · refine pc h.f_is_number (takes_of rfl rfl rfl rfl) hr rfl ?_ (by rfl) (by decide) (by rfl) (by rfl)
                · refine pq_cons ?_ ?_ (by rfl)
                  · exact pp_var (pv 1)
                  · refine pq_cons ?_ ?_ (by rfl)
                    · exact pp_int
                    · refine pq_cons ?_ ?_ (by rfl)
                      · refine pp_op op_addA (b_add rfl) ?_ ?_
                        · exact pp_gint T.g_MOST_DRAWN rfl (by decide)
                        · exact pp_int
                      · exact pq_nil
    · refine ss_one ?_
      · exact st_raise (c := 2) rfl (takes_of rfl rfl rfl rfl) (T.e_BadSheet _) rfl (by decide)
    · exact ss_nil
include T X0 G0 in
theorem ok_check_small {k : Nat} (h : Lv P w K mg base k) : FnH P w K mg base (k + 1) "check_small" (spP (fx K w) 2 (env (k + 1)).p_check_small) := by
  obtain ⟨fd, FD⟩ := T.sy.d.def_ 7 (d := ⟨("check_small", none), "check_small", "check_small", defArgs (top 18), defBody (top 18), defScope (top 18), [], []⟩) rfl
  exact ⟨_, fd, ["n", "m"], He.glo_ok X0 G0 (T.sy.d.fact 7 (f := .glo "check_small") rfl), FD.kp, FD.bindsN (fun _ _ _ _ _ _ us hl => match us, hl with | [_, _], _ => rfl), fo_check_small T X0 G0 h FD⟩
theorem sc_check_cell : FnScope ["n", "m", "i", "j"] ["n", "m", "i", "j"] (defScope (top 19)) := ⟨rfl, rfl, rfl, by decide +kernel, rfl, by decide +kernel, by decide +kernel⟩
include T X0 G0 in
theorem fo_check_cell {k : Nat} {fd : FuncData} (h : Lv P w K mg base k) (FD2 : FunD K "check_cell" "check_cell" (defArgs (top 19)) (defBody (top 19)) (defScope (top 19)) [] [] (He.ga K "check_cell") fd) : FnOk P w K mg base (L2.CX P w) (k + 1) (He.ga K "check_cell") fd ["n", "m", "i", "j"] (spP (fx K w) 4 (env (k + 1)).p_check_cell) := by
  have e0 : (env (k + 1)).p_check_cell = runB 4 (d_check_cell (env k)) := rfl
  rw [e0]
  have q0 := fn_pure (P := P) (w := w) (mg := mg) (base := base) (k := k) (F := fx K w) (d := d_check_cell (env k)) FD2 sc_check_cell
  refine q0 fun cdv A outer s H E hr => ?_
  have nd := sc_check_cell.nd
  refine ss_cons ?_ ?_
  · refine st_expr ?_ (by rfl)
    · refine pc h.f_check_sheet (takes_of rfl rfl rfl rfl) hr rfl ?_ (by rfl) (by decide) (by rfl) (by rfl)
      · refine pq_cons ?_ ?_ (by rfl)
        · exact pp_var (pv 0)
        · refine pq_cons ?_ ?_ (by rfl)
          · exact pp_var (pv 1)
          · exact pq_nil
  · refine ss_one ?_
    · refine st_if ?_ ?_ ?_
      · refine PW.pt ?_
        · refine qw_or ?_ ?_
          · refine qt_not ?_
            · refine pt_tru rfl ?_ (by intro _; rfl)
              · refine pc h.f_is_number (takes_of rfl rfl rfl rfl) hr rfl ?_ (by rfl) (by decide) (by rfl) (by rfl)
                · refine pq_cons ?_ ?_ (by rfl)
                  · exact pp_var (pv 2)
                  · refine pq_cons ?_ ?_ (by rfl)
                    · exact pp_int
                    · refine pq_cons ?_ ?_ (by rfl)
                      · exact pp_var (pv 0)
                      · exact pq_nil
          · refine qw_or1 ?_
            · refine qt_not ?_
              · refine pt_tru rfl ?_ (by intro _; rfl)
                · refine pc h.f_is_number (takes_of rfl rfl rfl rfl) hr rfl ?_ (by rfl) (by decide) (by rfl) (by rfl)
                  · refine pq_cons ?_ ?_ (by rfl)
                    · exact pp_var (pv 3)
                    · refine pq_cons ?_ ?_ (by rfl)
                      · exact pp_int
                      · refine pq_cons ?_ ?_ (by rfl)
                        · exact pp_var (pv 1)
                        · exact pq_nil
      · refine ss_one ?_
        · exact st_raise (c := 2) rfl (takes_of rfl rfl rfl rfl) (T.e_BadSheet _) rfl (by decide)
      · exact ss_nil
include T X0 G0 in
theorem ok_check_cell {k : Nat} (h : Lv P w K mg base k) : FnH P w K mg base (k + 1) "check_cell" (spP (fx K w) 4 (env (k + 1)).p_check_cell) := by
  obtain ⟨fd, FD⟩ := T.sy.d.def_ 8 (d := ⟨("check_cell", none), "check_cell", "check_cell", defArgs (top 19), defBody (top 19), defScope (top 19), [], []⟩) rfl
  exact ⟨_, fd, ["n", "m", "i", "j"], He.glo_ok X0 G0 (T.sy.d.fact 8 (f := .glo "check_cell") rfl), FD.kp, FD.bindsN (fun _ _ _ _ _ _ us hl => match us, hl with | [_, _, _, _], _ => rfl), fo_check_cell T X0 G0 h FD⟩
theorem sc_is_of_row : FnScope ["place", "a", "k"] ["place", "a", "k"] (defScope (top 20)) := ⟨rfl, rfl, rfl, by decide +kernel, rfl, by decide +kernel, by decide +kernel⟩
include T X0 G0 in
theorem fo_is_of_row {k : Nat} {fd : FuncData} (h : Lv P w K mg base k) (FD2 : FunD K "is_of_row" "is_of_row" (defArgs (top 20)) (defBody (top 20)) (defScope (top 20)) [] [] (He.ga K "is_of_row") fd) : FnOk P w K mg base (L2.CX P w) (k + 1) (He.ga K "is_of_row") fd ["place", "a", "k"] (spP (fx K w) 3 (env (k + 1)).p_is_of_row) := by
  have e0 : (env (k + 1)).p_is_of_row = runB 3 (d_is_of_row (env k)) := rfl
  rw [e0]
  have q0 := fn_pure (P := P) (w := w) (mg := mg) (base := base) (k := k) (F := fx K w) (d := d_is_of_row (env k)) FD2 sc_is_of_row
  refine q0 fun cdv A outer s H E hr => ?_
  have nd := sc_is_of_row.nd
  refine ss_cons ?_ ?_
  · refine st_if ?_ ?_ ?_
    · refine pt_cmp' (op_eqD hr.units) (c_eq rfl).bin ?_ ?_ (nomark _)
      · exact pp_var (pv 2)
      · exact pp_int
    · refine ss_one ?_
      · refine st_ret ?_
        · refine pp_cmp (op_eqD hr.units) (c_eq rfl).bin ?_ ?_ (nomark _)
          · exact pp_var (pv 0)
          · exact pp_var (pv 1)
    · exact ss_nil
  · refine ss_one ?_
    · refine st_ret ?_
      · refine pp_and ?_ ?_
        · refine pp_cmp op_ge c_ge.bin ?_ ?_ (nomark _)
          · exact pp_var (pv 0)
          · exact pp_var (pv 1)
        · refine pp_one ?_
          · refine pp_cmp (op_eqD hr.units) (c_eq rfl).bin ?_ ?_ (nomark _)
            · refine pp_op op_mod b_mod ?_ ?_
              · refine pp_op op_sub b_sub ?_ ?_
                · exact pp_var (pv 0)
                · exact pp_var (pv 1)
              · exact pp_var (pv 2)
            · exact pp_int
include T X0 G0 in
theorem ok_is_of_row {k : Nat} (h : Lv P w K mg base k) : FnH P w K mg base (k + 1) "is_of_row" (spP (fx K w) 3 (env (k + 1)).p_is_of_row) := by
  obtain ⟨fd, FD⟩ := T.sy.d.def_ 9 (d := ⟨("is_of_row", none), "is_of_row", "is_of_row", defArgs (top 20), defBody (top 20), defScope (top 20), [], []⟩) rfl
  exact ⟨_, fd, ["place", "a", "k"], He.glo_ok X0 G0 (T.sy.d.fact 9 (f := .glo "is_of_row") rfl), FD.kp, FD.bindsN (fun _ _ _ _ _ _ us hl => match us, hl with | [_, _, _], _ => rfl), fo_is_of_row T X0 G0 h FD⟩
theorem sc_plain_has : FnScope ["region", "n", "m", "i", "j", "word", "place"] ["region", "n", "m", "i", "j"] (defScope (top 21)) := ⟨rfl, rfl, rfl, by decide +kernel, rfl, by decide +kernel, by decide +kernel⟩
include T X0 G0 in
theorem fo_plain_has {k : Nat} {fd : FuncData} (h : Lv P w K mg base k) (FD2 : FunD K "plain_has" "plain_has" (defArgs (top 21)) (defBody (top 21)) (defScope (top 21)) [] [] (He.ga K "plain_has") fd) : FnOk P w K mg base (L2.CX P w) (k + 1) (He.ga K "plain_has") fd ["region", "n", "m", "i", "j"] (spP (fx K w) 5 (env (k + 1)).p_plain_has) := by
  have e0 : (env (k + 1)).p_plain_has = runB 7 (d_plain_has (env k)) := rfl
  rw [e0]
  have q0 := fn_pure (P := P) (w := w) (mg := mg) (base := base) (k := k) (F := fx K w) (d := d_plain_has (env k)) FD2 sc_plain_has
  refine q0 fun cdv A outer s H E hr => ?_
  have nd := sc_plain_has.nd
  refine ss_cons ?_ ?_
  · refine st_set (i := 5) nd rfl (.inl rfl) ?_ (by rfl) (by first | exact .inl rfl | exact .inr rfl | assumption)
    · refine pp_ix rfl ?_ ?_ (by intro _ _; rfl)
      · exact pp_var (pv 0)
      · exact pp_int
  · refine ss_cons ?_ ?_
    · refine st_if ?_ ?_ ?_
      · refine pt_cmp' (op_inA hr.u65) (c_in rfl).bin ?_ ?_ rfl
        · exact pp_var (pv 5)
        · refine pp_tup ?_
          · refine pq_cons ?_ ?_ (by rfl)
            · exact pp_str
            · refine pq_cons ?_ ?_ (by rfl)
              · exact pp_str
              · exact pq_nil
      · refine ss_one ?_
        · refine st_ret ?_
          · refine pp_cmp (op_eqD hr.units) (c_eq rfl).bin ?_ ?_ (nomark _)
            · exact pp_var (pv 5)
            · exact pp_str
      · exact ss_nil
    · refine ss_cons ?_ ?_
      · refine st_if ?_ ?_ ?_
        · refine pt_cmp' (op_inA hr.u65) (c_in rfl).bin ?_ ?_ rfl
          · exact pp_var (pv 5)
          · refine pp_tup ?_
            · refine pq_cons ?_ ?_ (by rfl)
              · exact pp_str
              · refine pq_cons ?_ ?_ (by rfl)
                · exact pp_str
                · exact pq_nil
        · refine ss_one ?_
          · refine st_ret ?_
            · refine pp_cmp op_ge c_ge.bin ?_ ?_ (nomark _)
              · refine pp_if ?_ ?_ ?_
                · refine pt_cmp' (op_eqD hr.units) (c_eq rfl).bin ?_ ?_ (nomark _)
                  · exact pp_var (pv 5)
                  · exact pp_str
                · exact pp_var (pv 1)
                · exact pp_var (pv 2)
              · refine pp_ix rfl ?_ ?_ (by intro _ _; rfl)
                · exact pp_var (pv 0)
                · exact pp_int
        · exact ss_nil
      · refine ss_cons ?_ ?_
        · refine st_if ?_ ?_ ?_
          · refine pt_cmp' (op_eqD hr.units) (c_eq rfl).bin ?_ ?_ (nomark _)
            · exact pp_var (pv 5)
            · exact pp_str
          · refine ss_one ?_
            · refine st_ret ?_
              · refine pp_cmp op_lt c_lt.bin ?_ ?_ (nomark _)
                · refine pp_fun (call_min4 rfl) f_min4 T.n_min (by decide +kernel) rfl ?_ (by decide) (by decide) (by rfl) (by rfl)
                  · refine pq_cons ?_ ?_ (by rfl)
                    · exact pp_var (pv 3)
                    · refine pq_cons ?_ ?_ (by rfl)
                      · refine pp_op op_sub b_sub ?_ ?_
                        · refine pp_op op_sub b_sub ?_ ?_
                          · exact pp_var (pv 1)
                          · exact pp_int
                        · exact pp_var (pv 3)
                      · refine pq_cons ?_ ?_ (by rfl)
                        · exact pp_var (pv 4)
                        · refine pq_cons ?_ ?_ (by rfl)
                          · refine pp_op op_sub b_sub ?_ ?_
                            · refine pp_op op_sub b_sub ?_ ?_
                              · exact pp_var (pv 2)
                              · exact pp_int
                            · exact pp_var (pv 4)
                          · exact pq_nil
                · refine pp_ix rfl ?_ ?_ (by intro _ _; rfl)
                  · exact pp_var (pv 0)
                  · exact pp_int
          · exact ss_nil
        · refine ss_cons ?_ ?_
          · refine st_set (i := 6) nd rfl (.inl rfl) ?_ (by rfl) (by first | exact .inl rfl | exact .inr rfl | assumption)
            · refine pp_pick (ds := [("rows", (dVar 3)), ("rows_up", (dBin pSub (dBin pSub (dVar 1) (dC (.int 1))) (dVar 3))), ("cols", (dVar 4)), ("cols_back", (dBin pSub (dBin pSub (dVar 2) (dC (.int 1))) (dVar 4)))]) (hu_of hr) ?_ rfl rfl (by decide) (by decide) (by decide) (by decide +kernel) ?_ (fun _ _ => rfl)
              · refine pps_cons pe_str ?_ ?_
                · exact pp_var (pv 3)
                · refine pps_cons pe_str ?_ ?_
                  · refine pp_op op_sub b_sub ?_ ?_
                    · refine pp_op op_sub b_sub ?_ ?_
                      · exact pp_var (pv 1)
                      · exact pp_int
                    · exact pp_var (pv 3)
                  · refine pps_cons pe_str ?_ ?_
                    · exact pp_var (pv 4)
                    · refine pps_cons pe_str ?_ ?_
                      · refine pp_op op_sub b_sub ?_ ?_
                        · refine pp_op op_sub b_sub ?_ ?_
                          · exact pp_var (pv 2)
                          · exact pp_int
                        · exact pp_var (pv 4)
                      · exact pps_nil
              · exact pp_var (pv 5)
          · refine ss_one ?_
            · refine st_ret ?_
              · refine pc h.f_is_of_row (takes_of rfl rfl rfl rfl) hr rfl ?_ (by rfl) (by decide) (by rfl) (by rfl)
                · refine pq_cons ?_ ?_ (by rfl)
                  · exact pp_var (pv 6)
                  · refine pq_cons ?_ ?_ (by rfl)
                    · refine pp_ix rfl ?_ ?_ (by intro _ _; rfl)
                      · exact pp_var (pv 0)
                      · exact pp_int
                    · refine pq_cons ?_ ?_ (by rfl)
                      · refine pp_ix rfl ?_ ?_ (by intro _ _; rfl)
                        · exact pp_var (pv 0)
                        · exact pp_int
                      · exact pq_nil
include T X0 G0 in
theorem ok_plain_has {k : Nat} (h : Lv P w K mg base k) : FnH P w K mg base (k + 1) "plain_has" (spP (fx K w) 5 (env (k + 1)).p_plain_has) := by
  obtain ⟨fd, FD⟩ := T.sy.d.def_ 10 (d := ⟨("plain_has", none), "plain_has", "plain_has", defArgs (top 21), defBody (top 21), defScope (top 21), [], []⟩) rfl
  exact ⟨_, fd, ["region", "n", "m", "i", "j"], He.glo_ok X0 G0 (T.sy.d.fact 10 (f := .glo "plain_has") rfl), FD.kp, FD.bindsN (fun _ _ _ _ _ _ us hl => match us, hl with | [_, _, _, _, _], _ => rfl), fo_plain_has T X0 G0 h FD⟩
theorem sc_moved_has : FnScope ["region", "n", "m", "i", "j", "row", "column"] ["region", "n", "m", "i", "j"] (defScope (top 22)) := ⟨rfl, rfl, rfl, by decide +kernel, rfl, by decide +kernel, by decide +kernel⟩
include T X0 G0 in
theorem fo_moved_has {k : Nat} {fd : FuncData} (h : Lv P w K mg base k) (FD2 : FunD K "moved_has" "moved_has" (defArgs (top 22)) (defBody (top 22)) (defScope (top 22)) [] [] (He.ga K "moved_has") fd) : FnOk P w K mg base (L2.CX P w) (k + 1) (He.ga K "moved_has") fd ["region", "n", "m", "i", "j"] (spP (fx K w) 5 (env (k + 1)).p_moved_has) := by
  have e0 : (env (k + 1)).p_moved_has = runB 7 (d_moved_has (env k)) := rfl
  rw [e0]
  have q0 := fn_pure (P := P) (w := w) (mg := mg) (base := base) (k := k) (F := fx K w) (d := d_moved_has (env k)) FD2 sc_moved_has
  refine q0 fun cdv A outer s H E hr => ?_
  have nd := sc_moved_has.nd
  refine ss_cons ?_ ?_
  · refine st_par (i := 5) (j := 6) rfl nd rfl rfl (by decide) rfl rfl ?_ (by rfl) (by rfl)
    · refine pq_cons ?_ ?_ (by rfl)
      · refine pp_op op_sub b_sub ?_ ?_
        · exact pp_var (pv 3)
        · refine pp_ix rfl ?_ ?_ (by intro _ _; rfl)
          · exact pp_var (pv 0)
          · exact pp_int
      · refine pq_cons ?_ ?_ (by rfl)
        · refine pp_op op_sub b_sub ?_ ?_
          · exact pp_var (pv 4)
          · refine pp_ix rfl ?_ ?_ (by intro _ _; rfl)
            · exact pp_var (pv 0)
            · exact pp_int
        · exact pq_nil
  · refine ss_one ?_
    · refine st_ret ?_
      · refine pp_and ?_ ?_
        · refine pp_chain op_le op_lt c_le c_lt.bin ?_ ?_ ?_ (by with_unfolding_all rfl)
          · exact pp_int
          · exact pp_var (pv 5)
          · exact pp_var (pv 1)
        · refine pp_and ?_ ?_
          · refine pp_chain op_le op_lt c_le c_lt.bin ?_ ?_ ?_ (by with_unfolding_all rfl)
            · exact pp_int
            · exact pp_var (pv 6)
            · exact pp_var (pv 2)
          · refine pp_one ?_
            · refine pc h.f_cell_has (takes_of rfl rfl rfl rfl) hr rfl ?_ (by rfl) (by decide) (by rfl) (by rfl)
              · refine pq_cons ?_ ?_ (by rfl)
                · refine pp_ix rfl ?_ ?_ (by intro _ _; rfl)
                  · exact pp_var (pv 0)
                  · exact pp_int
                · refine pq_cons ?_ ?_ (by rfl)
                  · exact pp_var (pv 1)
                  · refine pq_cons ?_ ?_ (by rfl)
                    · exact pp_var (pv 2)
                    · refine pq_cons ?_ ?_ (by rfl)
                      · exact pp_var (pv 5)
                      · refine pq_cons ?_ ?_ (by rfl)
                        · exact pp_var (pv 6)
                        · exact pq_nil
include T X0 G0 in
theorem ok_moved_has {k : Nat} (h : Lv P w K mg base k) : FnH P w K mg base (k + 1) "moved_has" (spP (fx K w) 5 (env (k + 1)).p_moved_has) := by
  obtain ⟨fd, FD⟩ := T.sy.d.def_ 11 (d := ⟨("moved_has", none), "moved_has", "moved_has", defArgs (top 22), defBody (top 22), defScope (top 22), [], []⟩) rfl
  exact ⟨_, fd, ["region", "n", "m", "i", "j"], He.glo_ok X0 G0 (T.sy.d.fact 11 (f := .glo "moved_has") rfl), FD.kp, FD.bindsN (fun _ _ _ _ _ _ us hl => match us, hl with | [_, _, _, _, _], _ => rfl), fo_moved_has T X0 G0 h FD⟩
theorem sc_cell_has : FnScope ["region", "n", "m", "i", "j", "word"] ["region", "n", "m", "i", "j"] (defScope (top 23)) := ⟨rfl, rfl, rfl, by decide +kernel, rfl, by decide +kernel, by decide +kernel⟩
include T X0 G0 in
theorem fo_cell_has {k : Nat} {fd : FuncData} (h : Lv P w K mg base k) (FD2 : FunD K "cell_has" "cell_has" (defArgs (top 23)) (defBody (top 23)) (defScope (top 23)) [] [] (He.ga K "cell_has") fd) : FnOk P w K mg base (L2.CX P w) (k + 1) (He.ga K "cell_has") fd ["region", "n", "m", "i", "j"] (spP (fx K w) 5 (env (k + 1)).p_cell_has) := by
  have e0 : (env (k + 1)).p_cell_has = runB 6 (d_cell_has (env k)) := rfl
  rw [e0]
  have q0 := fn_pure (P := P) (w := w) (mg := mg) (base := base) (k := k) (F := fx K w) (d := d_cell_has (env k)) FD2 sc_cell_has
  refine q0 fun cdv A outer s H E hr => ?_
  have nd := sc_cell_has.nd
  refine ss_cons ?_ ?_
  · refine st_set (i := 5) nd rfl (.inl rfl) ?_ (by rfl) (by first | exact .inl rfl | exact .inr rfl | assumption)
    · refine pp_ix rfl ?_ ?_ (by intro _ _; rfl)
      · exact pp_var (pv 0)
      · exact pp_int
  · refine ss_cons ?_ ?_
    · refine st_if ?_ ?_ ?_
      · refine pt_cmp' (op_eqD hr.units) (c_eq rfl).bin ?_ ?_ (nomark _)
        · exact pp_var (pv 5)
        · exact pp_str
      · refine ss_one ?_
        · refine st_ret ?_
          · refine pp_and ?_ ?_
            · refine pc h.f_cell_has (takes_of rfl rfl rfl rfl) hr rfl ?_ (by rfl) (by decide) (by rfl) (by rfl)
              · refine pq_cons ?_ ?_ (by rfl)
                · refine pp_ix rfl ?_ ?_ (by intro _ _; rfl)
                  · exact pp_var (pv 0)
                  · exact pp_int
                · refine pq_cons ?_ ?_ (by rfl)
                  · exact pp_var (pv 1)
                  · refine pq_cons ?_ ?_ (by rfl)
                    · exact pp_var (pv 2)
                    · refine pq_cons ?_ ?_ (by rfl)
                      · exact pp_var (pv 3)
                      · refine pq_cons ?_ ?_ (by rfl)
                        · exact pp_var (pv 4)
                        · exact pq_nil
            · refine pp_one ?_
              · refine pc h.f_cell_has (takes_of rfl rfl rfl rfl) hr rfl ?_ (by rfl) (by decide) (by rfl) (by rfl)
                · refine pq_cons ?_ ?_ (by rfl)
                  · refine pp_ix rfl ?_ ?_ (by intro _ _; rfl)
                    · exact pp_var (pv 0)
                    · exact pp_int
                  · refine pq_cons ?_ ?_ (by rfl)
                    · exact pp_var (pv 1)
                    · refine pq_cons ?_ ?_ (by rfl)
                      · exact pp_var (pv 2)
                      · refine pq_cons ?_ ?_ (by rfl)
                        · exact pp_var (pv 3)
                        · refine pq_cons ?_ ?_ (by rfl)
                          · exact pp_var (pv 4)
                          · exact pq_nil
      · exact ss_nil
    · refine ss_cons ?_ ?_
      · refine st_if ?_ ?_ ?_
        · refine pt_cmp' (op_eqD hr.units) (c_eq rfl).bin ?_ ?_ (nomark _)
          · exact pp_var (pv 5)
          · exact pp_str
        · refine ss_one ?_
          · refine st_ret ?_
            · refine pp_or ?_ ?_
              · refine pc h.f_cell_has (takes_of rfl rfl rfl rfl) hr rfl ?_ (by rfl) (by decide) (by rfl) (by rfl)
                · refine pq_cons ?_ ?_ (by rfl)
                  · refine pp_ix rfl ?_ ?_ (by intro _ _; rfl)
                    · exact pp_var (pv 0)
                    · exact pp_int
                  · refine pq_cons ?_ ?_ (by rfl)
                    · exact pp_var (pv 1)
                    · refine pq_cons ?_ ?_ (by rfl)
                      · exact pp_var (pv 2)
                      · refine pq_cons ?_ ?_ (by rfl)
                        · exact pp_var (pv 3)
                        · refine pq_cons ?_ ?_ (by rfl)
                          · exact pp_var (pv 4)
                          · exact pq_nil
              · refine pp_one ?_
                · refine pc h.f_cell_has (takes_of rfl rfl rfl rfl) hr rfl ?_ (by rfl) (by decide) (by rfl) (by rfl)
                  · refine pq_cons ?_ ?_ (by rfl)
                    · refine pp_ix rfl ?_ ?_ (by intro _ _; rfl)
                      · exact pp_var (pv 0)
                      · exact pp_int
                    · refine pq_cons ?_ ?_ (by rfl)
                      · exact pp_var (pv 1)
                      · refine pq_cons ?_ ?_ (by rfl)
                        · exact pp_var (pv 2)
                        · refine pq_cons ?_ ?_ (by rfl)
                          · exact pp_var (pv 3)
                          · refine pq_cons ?_ ?_ (by rfl)
                            · exact pp_var (pv 4)
                            · exact pq_nil
        · exact ss_nil
      · refine ss_cons ?_ ?_
        · refine st_if ?_ ?_ ?_
          · refine pt_cmp' (op_eqD hr.units) (c_eq rfl).bin ?_ ?_ (nomark _)
            · exact pp_var (pv 5)
            · exact pp_str
          · refine ss_one ?_
            · refine st_ret ?_
              · refine pp_not ?_
                · refine pc h.f_cell_has (takes_of rfl rfl rfl rfl) hr rfl ?_ (by rfl) (by decide) (by rfl) (by rfl)
                  · refine pq_cons ?_ ?_ (by rfl)
                    · refine pp_ix rfl ?_ ?_ (by intro _ _; rfl)
                      · exact pp_var (pv 0)
                      · exact pp_int
                    · refine pq_cons ?_ ?_ (by rfl)
                      · exact pp_var (pv 1)
                      · refine pq_cons ?_ ?_ (by rfl)
                        · exact pp_var (pv 2)
                        · refine pq_cons ?_ ?_ (by rfl)
                          · exact pp_var (pv 3)
                          · refine pq_cons ?_ ?_ (by rfl)
                            · exact pp_var (pv 4)
                            · exact pq_nil
          · exact ss_nil
        · refine ss_cons ?_ ?_
          · refine st_if ?_ ?_ ?_
            · refine pt_cmp' (op_eqD hr.units) (c_eq rfl).bin ?_ ?_ (nomark _)
              · exact pp_var (pv 5)
              · exact pp_str
            · refine ss_one ?_
              · refine st_ret ?_
                · refine pc h.f_cell_has (takes_of rfl rfl rfl rfl) hr rfl ?_ (by rfl) (by decide) (by rfl) (by rfl)
                  · refine pq_cons ?_ ?_ (by rfl)
                    · refine pp_ix rfl ?_ ?_ (by intro _ _; rfl)
                      · exact pp_var (pv 0)
                      · exact pp_int
                    · refine pq_cons ?_ ?_ (by rfl)
                      · exact pp_var (pv 1)
                      · refine pq_cons ?_ ?_ (by rfl)
                        · exact pp_var (pv 2)
                        · refine pq_cons ?_ ?_ (by rfl)
                          · refine pp_op op_sub b_sub ?_ ?_
                            · refine pp_op op_sub b_sub ?_ ?_
                              · exact pp_var (pv 1)
                              · exact pp_int
                            · exact pp_var (pv 3)
                          · refine pq_cons ?_ ?_ (by rfl)
                            · exact pp_var (pv 4)
                            · exact pq_nil
            · exact ss_nil
          · refine ss_cons ?_ ?_
            · refine st_if ?_ ?_ ?_
              · refine pt_cmp' (op_eqD hr.units) (c_eq rfl).bin ?_ ?_ (nomark _)
                · exact pp_var (pv 5)
                · exact pp_str
              · refine ss_one ?_
                · refine st_ret ?_
                  · refine pc h.f_cell_has (takes_of rfl rfl rfl rfl) hr rfl ?_ (by rfl) (by decide) (by rfl) (by rfl)
                    · refine pq_cons ?_ ?_ (by rfl)
                      · refine pp_ix rfl ?_ ?_ (by intro _ _; rfl)
                        · exact pp_var (pv 0)
                        · exact pp_int
                      · refine pq_cons ?_ ?_ (by rfl)
                        · exact pp_var (pv 1)
                        · refine pq_cons ?_ ?_ (by rfl)
                          · exact pp_var (pv 2)
                          · refine pq_cons ?_ ?_ (by rfl)
                            · exact pp_var (pv 3)
                            · refine pq_cons ?_ ?_ (by rfl)
                              · refine pp_op op_sub b_sub ?_ ?_
                                · refine pp_op op_sub b_sub ?_ ?_
                                  · exact pp_var (pv 2)
                                  · exact pp_int
                                · exact pp_var (pv 4)
                              · exact pq_nil
              · exact ss_nil
            · refine ss_cons ?_ ?_
              · refine st_if ?_ ?_ ?_
                · refine pt_cmp' (op_eqD hr.units) (c_eq rfl).bin ?_ ?_ (nomark _)
                  · exact pp_var (pv 5)
                  · exact pp_str
                · refine ss_one ?_
                  · refine st_ret ?_
                    · refine pc h.f_cell_has (takes_of rfl rfl rfl rfl) hr rfl ?_ (by rfl) (by decide) (by rfl) (by rfl)
                      · refine pq_cons ?_ ?_ (by rfl)
                        · refine pp_ix rfl ?_ ?_ (by intro _ _; rfl)
                          · exact pp_var (pv 0)
                          · exact pp_int
                        · refine pq_cons ?_ ?_ (by rfl)
                          · exact pp_var (pv 2)
                          · refine pq_cons ?_ ?_ (by rfl)
                            · exact pp_var (pv 1)
                            · refine pq_cons ?_ ?_ (by rfl)
                              · exact pp_var (pv 4)
                              · refine pq_cons ?_ ?_ (by rfl)
                                · exact pp_var (pv 3)
                                · exact pq_nil
                · exact ss_nil
              · refine ss_one ?_
                · refine st_ret ?_
                  · refine pp_if ?_ ?_ ?_
                    · refine pt_cmp' (op_eqD hr.units) (c_eq rfl).bin ?_ ?_ (nomark _)
                      · exact pp_var (pv 5)
                      · exact pp_str
                    · refine pc h.f_moved_has (takes_of rfl rfl rfl rfl) hr rfl ?_ (by rfl) (by decide) (by rfl) (by rfl)
                      · refine pq_cons ?_ ?_ (by rfl)
                        · exact pp_var (pv 0)
                        · refine pq_cons ?_ ?_ (by rfl)
                          · exact pp_var (pv 1)
                          · refine pq_cons ?_ ?_ (by rfl)
                            · exact pp_var (pv 2)
                            · refine pq_cons ?_ ?_ (by rfl)
                              · exact pp_var (pv 3)
                              · refine pq_cons ?_ ?_ (by rfl)
                                · exact pp_var (pv 4)
                                · exact pq_nil
                    · refine pc h.f_plain_has (takes_of rfl rfl rfl rfl) hr rfl ?_ (by rfl) (by decide) (by rfl) (by rfl)
                      · refine pq_cons ?_ ?_ (by rfl)
                        · exact pp_var (pv 0)
                        · refine pq_cons ?_ ?_ (by rfl)
                          · exact pp_var (pv 1)
                          · refine pq_cons ?_ ?_ (by rfl)
                            · exact pp_var (pv 2)
                            · refine pq_cons ?_ ?_ (by rfl)
                              · exact pp_var (pv 3)
                              · refine pq_cons ?_ ?_ (by rfl)
                                · exact pp_var (pv 4)
                                · exact pq_nil
include T X0 G0 in
theorem ok_cell_has {k : Nat} (h : Lv P w K mg base k) : FnH P w K mg base (k + 1) "cell_has" (spP (fx K w) 5 (env (k + 1)).p_cell_has) := by
  obtain ⟨fd, FD⟩ := T.sy.d.def_ 12 (d := ⟨("cell_has", none), "cell_has", "cell_has", defArgs (top 23), defBody (top 23), defScope (top 23), [], []⟩) rfl
  exact ⟨_, fd, ["region", "n", "m", "i", "j"], He.glo_ok X0 G0 (T.sy.d.fact 12 (f := .glo "cell_has") rfl), FD.kp, FD.bindsN (fun _ _ _ _ _ _ us hl => match us, hl with | [_, _, _, _, _], _ => rfl), fo_cell_has T X0 G0 h FD⟩
theorem sc_has : FnScope ["region", "n", "m", "i", "j"] ["region", "n", "m", "i", "j"] (defScope (top 24)) := ⟨rfl, rfl, rfl, by decide +kernel, rfl, by decide +kernel, by decide +kernel⟩
include T X0 G0 in
theorem fo_has {k : Nat} {fd : FuncData} (h : Lv P w K mg base k) (FD2 : FunD K "has" "has" (defArgs (top 24)) (defBody (top 24)) (defScope (top 24)) [] [] (He.ga K "has") fd) : FnOk P w K mg base (L2.CX P w) (k + 1) (He.ga K "has") fd ["region", "n", "m", "i", "j"] (spP (fx K w) 5 (env (k + 1)).p_has) := by
  have e0 : (env (k + 1)).p_has = runB 5 (d_has (env k)) := rfl
  rw [e0]
  have q0 := fn_pure (P := P) (w := w) (mg := mg) (base := base) (k := k) (F := fx K w) (d := d_has (env k)) FD2 sc_has
  refine q0 fun cdv A outer s H E hr => ?_
  have nd := sc_has.nd
  refine ss_cons ?_ ?_
  · refine st_expr ?_ (by rfl)
    · refine pc h.f_check_region (takes_of rfl rfl rfl rfl) hr rfl ?_ (by rfl) (by decide) (by rfl) (by rfl)
      · refine pq_cons ?_ ?_ (by rfl)
        · exact pp_var (pv 0)
        · exact pq_nil
  · refine ss_cons ?_ ?_
    · refine st_expr ?_ (by rfl)
      · refine pc h.f_check_cell (takes_of rfl rfl rfl rfl) hr rfl ?_ (by rfl) (by decide) (by rfl) (by rfl)
        · refine pq_cons ?_ ?_ (by rfl)
          · exact pp_var (pv 1)
          · refine pq_cons ?_ ?_ (by rfl)
            · exact pp_var (pv 2)
            · refine pq_cons ?_ ?_ (by rfl)
              · exact pp_var (pv 3)
              · refine pq_cons ?_ ?_ (by rfl)
                · exact pp_var (pv 4)
                · exact pq_nil
    · refine ss_one ?_
      · refine st_ret ?_
        · refine pc h.f_cell_has (takes_of rfl rfl rfl rfl) hr rfl ?_ (by rfl) (by decide) (by rfl) (by rfl)
          · refine pq_cons ?_ ?_ (by rfl)
            · exact pp_var (pv 0)
            · refine pq_cons ?_ ?_ (by rfl)
              · exact pp_var (pv 1)
              · refine pq_cons ?_ ?_ (by rfl)
                · exact pp_var (pv 2)
                · refine pq_cons ?_ ?_ (by rfl)
                  · exact pp_var (pv 3)
                  · refine pq_cons ?_ ?_ (by rfl)
                    · exact pp_var (pv 4)
                    · exact pq_nil
include T X0 G0 in
theorem ok_has {k : Nat} (h : Lv P w K mg base k) : FnH P w K mg base (k + 1) "has" (spP (fx K w) 5 (env (k + 1)).p_has) := by
  obtain ⟨fd, FD⟩ := T.sy.d.def_ 13 (d := ⟨("has", none), "has", "has", defArgs (top 24), defBody (top 24), defScope (top 24), [], []⟩) rfl
  exact ⟨_, fd, ["region", "n", "m", "i", "j"], He.glo_ok X0 G0 (T.sy.d.fact 13 (f := .glo "has") rfl), FD.kp, FD.bindsN (fun _ _ _ _ _ _ us hl => match us, hl with | [_, _, _, _, _], _ => rfl), fo_has T X0 G0 h FD⟩
theorem sc_drawn : FnScope ["region", "n", "m", "found", "i", "j"] ["region", "n", "m"] (defScope (top 25)) := ⟨rfl, rfl, rfl, by decide +kernel, rfl, by decide +kernel, by decide +kernel⟩
include T X0 G0 in
theorem fo_drawn {k : Nat} {fd : FuncData} (h : Lv P w K mg base k) (FD2 : FunD K "drawn" "drawn" (defArgs (top 25)) (defBody (top 25)) (defScope (top 25)) [] [] (He.ga K "drawn") fd) : FnOk P w K mg base (L2.CX P w) (k + 1) (He.ga K "drawn") fd ["region", "n", "m"] (spP (fx K w) 3 (env (k + 1)).p_drawn) := by
  have e0 : (env (k + 1)).p_drawn = runB 6 (d_drawn (env k)) := rfl
  rw [e0]
  have q0 := fn_pure (P := P) (w := w) (mg := mg) (base := base) (k := k) (F := fx K w) (d := d_drawn (env k)) FD2 sc_drawn
  refine q0 fun cdv A outer s H E hr => ?_
  have nd := sc_drawn.nd
  refine ss_cons ?_ ?_
  · refine st_expr ?_ (by rfl)
    · refine pc h.f_check_region (takes_of rfl rfl rfl rfl) hr rfl ?_ (by rfl) (by decide) (by rfl) (by rfl)
      · refine pq_cons ?_ ?_ (by rfl)
        · exact pp_var (pv 0)
        · exact pq_nil
  · refine ss_cons ?_ ?_
    · refine st_expr ?_ (by rfl)
      · refine pc h.f_check_small (takes_of rfl rfl rfl rfl) hr rfl ?_ (by rfl) (by decide) (by rfl) (by rfl)
        · refine pq_cons ?_ ?_ (by rfl)
          · exact pp_var (pv 1)
          · refine pq_cons ?_ ?_ (by rfl)
            · exact pp_var (pv 2)
            · exact pq_nil
    · refine ss_cons ?_ ?_
      · refine st_newL (i := 3) nd rfl (.inl rfl) ?_ (by rfl) (by first | exact .inl rfl | exact .inr rfl | assumption)
        · exact pq_nil
      · refine ss_cons ?_ ?_
        · refine st_for (passes_of rfl) rfl ?_ (pg_name (i := 4) nd rfl (by first | exact Or.inl rfl | exact Or.inr rfl)) tg_one ?_ (by intro _; rfl)
          · refine qi_range1 rfl T.n_range ?_ (by rfl)
            · refine pq_cons ?_ ?_ (by rfl)
              · exact pp_var (pv 1)
              · exact pq_nil
          · refine ss_one ?_
            · refine st_app (pv 3) ?_ (by rfl) (by rfl) (by rfl) (by rfl) (by rfl) (by rfl)
              · refine pp_join ?_ ?_ (by rfl) (by rfl) (by rfl)
                · exact pp_str
                · refine pp_comp (own := [("j", 5)]) rfl nd ?_ (blkC_of (N' := ["region", "n", "m", "found", "i", "j"]) (sc' := defScope (top 25)) rfl rfl (by decide +kernel)) tg_one rfl (fun _ _ _ _ _ => (pg_name (i := 5) nd rfl (by first | exact Or.inl rfl | exact Or.inr rfl))) (fun _ _ _ _ _ => ?_) (fun _ _ _ _ _ => ?_) (by intro _; rfl)
                  · refine qi_range1 rfl T.n_range ?_ (by rfl)
                    · refine pq_cons ?_ ?_ (by rfl)
                      · exact pp_var (pv 2)
                      · exact pq_nil
                  · exact qts_nil
                  · refine pp_if ?_ ?_ ?_
                    · refine pt_tru rfl ?_ (by intro _; rfl)
                      · refine pc h.f_cell_has takes0 hr rfl ?_ (by rfl) (by decide) (by rfl) (by rfl)
                        · refine pq_cons ?_ ?_ (by rfl)
                          · exact pp_var (pv 0)
                          · refine pq_cons ?_ ?_ (by rfl)
                            · exact pp_var (pv 1)
                            · refine pq_cons ?_ ?_ (by rfl)
                              · exact pp_var (pv 2)
                              · refine pq_cons ?_ ?_ (by rfl)
                                · exact pp_var (pv 4)
                                · refine pq_cons ?_ ?_ (by rfl)
                                  · exact pp_var (pv 5)
                                  · exact pq_nil
                    · exact pp_str
                    · exact pp_str
        · refine ss_one ?_
          · refine st_ret ?_
            · exact pp_rd (pv 3)
include T X0 G0 in
theorem ok_drawn {k : Nat} (h : Lv P w K mg base k) : FnH P w K mg base (k + 1) "drawn" (spP (fx K w) 3 (env (k + 1)).p_drawn) := by
  obtain ⟨fd, FD⟩ := T.sy.d.def_ 14 (d := ⟨("drawn", none), "drawn", "drawn", defArgs (top 25), defBody (top 25), defScope (top 25), [], []⟩) rfl
  exact ⟨_, fd, ["region", "n", "m"], He.glo_ok X0 G0 (T.sy.d.fact 14 (f := .glo "drawn") rfl), FD.kp, FD.bindsN (fun _ _ _ _ _ _ us hl => match us, hl with | [_, _, _], _ => rfl), fo_drawn T X0 G0 h FD⟩
theorem sc_l_begin : FnScope ["_law_script"] ["_law_script"] (defScope (top 27)) := ⟨rfl, rfl, rfl, by decide +kernel, rfl, by decide +kernel, by decide +kernel⟩
include T X0 G0 in
theorem fo_l_begin {k : Nat} {fd : FuncData} (h : Lv P w K mg base k) (FD2 : FunD K "_law_begin" "_law_begin" (defArgs (top 27)) (defBody (top 27)) (defScope (top 27)) [] [] (He.ga K "_law_begin") fd) : FnOk P w K mg base (L2.CX P w) (k + 1) (He.ga K "_law_begin") fd ["_law_script"] (spO (fx K w) 1 (env (k + 1)).o_l_begin) := by
  have e0 : (env (k + 1)).o_l_begin = runO 1 (d_l_begin (env k)) := rfl
  rw [e0]
  have q0 := fn_own (P := P) (w := w) (mg := mg) (base := base) (k := k) (F := fx K w) (d := d_l_begin (env k)) FD2 sc_l_begin
  refine q0 fun cdv A outer s H E hr => ?_
  have nd := sc_l_begin.nd
  refine pq_cons ?_ ?_ (by rfl)
  · refine pp_ty call_list_of (f_list rfl) T.n_list (by decide +kernel) rfl ?_ (by decide) (by decide) (by rfl) (by rfl)
    · refine pq_cons ?_ ?_ (by rfl)
      · exact pp_var (pv 0)
      · exact pq_nil
  · refine pq_cons ?_ ?_ (by rfl)
    · exact pp_int
    · refine pq_cons ?_ ?_ (by rfl)
      · exact pp_int
      · refine pq_cons ?_ ?_ (by rfl)
        · exact pp_int
        · exact pq_nil
include T X0 G0 in
theorem ok_l_begin {k : Nat} (h : Lv P w K mg base k) : FnH P w K mg base (k + 1) "_law_begin" (spO (fx K w) 1 (env (k + 1)).o_l_begin) := by
  obtain ⟨fd, FD⟩ := T.sy.d.def_ 15 (d := ⟨("_law_begin", none), "_law_begin", "_law_begin", defArgs (top 27), defBody (top 27), defScope (top 27), [], []⟩) rfl
  exact ⟨_, fd, ["_law_script"], He.glo_ok X0 G0 (T.sy.d.fact 15 (f := .glo "_law_begin") rfl), FD.kp, FD.bindsN (fun _ _ _ _ _ _ us hl => match us, hl with | [_], _ => rfl), fo_l_begin T X0 G0 h FD⟩
theorem sc_l_draw : FnScope ["_law_draws", "_law_size", "_law_cell", "_law_found"] ["_law_draws", "_law_size"] (defScope (top 28)) := ⟨rfl, rfl, rfl, by decide +kernel, rfl, by decide +kernel, by decide +kernel⟩
include T X0 G0 in
theorem fo_l_draw {k : Nat} {fd : FuncData} (h : Lv P w K mg base k) (FD2 : FunD K "_law_draw" "_law_draw" (defArgs (top 28)) (defBody (top 28)) (defScope (top 28)) [] [] (He.ga K "_law_draw") fd) : FnOk P w K mg base (L2.CX P w) (k + 1) (He.ga K "_law_draw") fd ["_law_draws", "_law_size"] (spI (fx K w) 2 (env (k + 1)).i_l_draw) := by
  have e0 : (env (k + 1)).i_l_draw = runI 4 (d_l_draw (env k)) := rfl
  rw [e0]
  have q0 := fn_inp (P := P) (w := w) (mg := mg) (base := base) (k := k) (F := fx K w) (d := d_l_draw (env k)) FD2 sc_l_draw
  refine q0 fun cdv A outer s H E io hr => ?_
  have nd := sc_l_draw.nd
  refine ss_cons ?_ ?_
  · refine st_if ?_ ?_ ?_
    · refine pt_cmp' (op_eqD hr.units) (c_eq rfl).bin ?_ ?_ (nomark _)
      · refine pp_ixM rfl (pv 0) ?_ (by intro _ _; rfl)
        · exact pp_int
      · exact pp_int
    · refine ss_one ?_
      · refine st_if ?_ ?_ ?_
        · refine pt_cmp' op_lt c_lt.bin ?_ ?_ (nomark _)
          · refine pp_ixM rfl (pv 0) ?_ (by intro _ _; rfl)
            · exact pp_int
          · refine pp_fun call_lenA (f_len rfl) T.n_len (by decide +kernel) rfl ?_ (by decide) (by decide) (by rfl) (by rfl)
            · refine pq_cons ?_ ?_ (by rfl)
              · refine pp_ixM rfl (pv 0) ?_ (by intro _ _; rfl)
                · exact pp_int
              · exact pq_nil
        · refine ss_cons ?_ ?_
          · refine st_set (i := 2) nd rfl (.inl rfl) ?_ (by rfl) (by first | exact .inl rfl | exact .inr rfl | assumption)
            · refine pp_ix rfl ?_ ?_ (by intro _ _; rfl)
              · refine pp_ixM rfl (pv 0) ?_ (by intro _ _; rfl)
                · exact pp_int
              · refine pp_ixM rfl (pv 0) ?_ (by intro _ _; rfl)
                · exact pp_int
          · refine ss_cons ?_ ?_
            · refine st_put (pv 0) ?_ ?_ (by rfl) (by rfl) (by rfl) (by intro _; rfl)
              · refine pp_op op_addA (b_add rfl) ?_ ?_
                · refine pp_ixM rfl (pv 0) ?_ (by intro _ _; rfl)
                  · exact pp_int
                · exact pp_int
              · exact pp_int
            · refine ss_one ?_
              · refine st_if ?_ ?_ ?_
                · refine pt_cmp' op_ge c_ge.bin ?_ ?_ (nomark _)
                  · exact pp_var (pv 2)
                  · refine pp_op op_pow b_pow ?_ ?_
                    · exact pp_int
                    · exact pp_int
                · refine ss_one ?_
                  · refine st_put (pv 0) ?_ ?_ (by rfl) (by rfl) (by rfl) (by intro _; rfl)
                    · exact pp_var (pv 2)
                    · exact pp_int
                · refine ss_one ?_
                  · refine st_put (pv 0) ?_ ?_ (by rfl) (by rfl) (by rfl) (by intro _; rfl)
                    · refine pp_op op_mod b_mod ?_ ?_
                      · refine pp_ty call_int1 f_int T.n_int (by decide +kernel) rfl ?_ (by decide) (by decide) (by rfl) (by rfl)
                        · refine pq_cons ?_ ?_ (by rfl)
                          · refine pp_op op_addA (b_add rfl) ?_ ?_
                            · refine pp_op op_addA (b_add rfl) ?_ ?_
                              · refine pp_op op_mulA b_mul ?_ ?_
                                · refine pp_ixM rfl (pv 0) ?_ (by intro _ _; rfl)
                                  · exact pp_int
                                · exact pp_int
                              · refine pp_op op_mulA b_mul ?_ ?_
                                · exact pp_var (pv 2)
                                · exact pp_int
                            · exact pp_int
                          · exact pq_nil
                      · exact pp_int
                    · exact pp_int
        · refine ss_one ?_
          · refine st_put (pv 0) ?_ ?_ (by rfl) (by rfl) (by rfl) (by intro _; rfl)
            · refine pp_op op_mod b_mod ?_ ?_
              · refine pp_ty call_int1 f_int T.n_int (by decide +kernel) rfl ?_ (by decide) (by decide) (by rfl) (by rfl)
                · refine pq_cons ?_ ?_ (by rfl)
                  · refine pp_op op_addA (b_add rfl) ?_ ?_
                    · refine pp_op op_mulA b_mul ?_ ?_
                      · refine pp_ixM rfl (pv 0) ?_ (by intro _ _; rfl)
                        · exact pp_int
                      · exact pp_int
                    · exact pp_int
                  · exact pq_nil
              · exact pp_int
            · exact pp_int
    · exact ss_nil
  · refine ss_cons ?_ ?_
    · refine st_if ?_ ?_ ?_
      · refine pt_cmp' op_gt c_gt.bin ?_ ?_ (nomark _)
        · refine pp_ixM rfl (pv 0) ?_ (by intro _ _; rfl)
          · exact pp_int
        · exact pp_int
      · refine ss_cons ?_ ?_
        · refine st_set (i := 3) nd rfl (.inl rfl) ?_ (by rfl) (by first | exact .inl rfl | exact .inr rfl | assumption)
          · refine pp_op op_mod b_mod ?_ ?_
            · refine pp_ty call_int1 f_int T.n_int (by decide +kernel) rfl ?_ (by decide) (by decide) (by rfl) (by rfl)
              · refine pq_cons ?_ ?_ (by rfl)
                · refine pp_ixM rfl (pv 0) ?_ (by intro _ _; rfl)
                  · exact pp_int
                · exact pq_nil
            · exact pp_var (pv 1)
        · refine ss_cons ?_ ?_
          · refine st_put (pv 0) ?_ ?_ (by rfl) (by rfl) (by rfl) (by intro _; rfl)
            · refine pp_op op_fdivW b_div ?_ ?_
              · refine pp_ixM rfl (pv 0) ?_ (by intro _ _; rfl)
                · exact pp_int
              · exact pp_var (pv 1)
            · exact pp_int
          · refine ss_one ?_
            · refine st_ret ?_
              · exact pp_var (pv 3)
      · exact ss_nil
    · refine ss_one ?_
      · refine st_ret ?_
        · refine pp_op op_mod b_mod ?_ ?_
          · refine pp_op op_mod b_mod ?_ ?_
            · refine pp_ty call_int1 f_int T.n_int (by decide +kernel) rfl ?_ (by decide) (by decide) (by rfl) (by rfl)
              · refine pq_cons ?_ ?_ (by rfl)
                · refine pp_op op_mulA b_mul ?_ ?_
                  · refine pp_ixM rfl (pv 0) ?_ (by intro _ _; rfl)
                    · exact pp_int
                  · exact pp_int
                · exact pq_nil
            · exact pp_int
          · exact pp_var (pv 1)
include T X0 G0 in
theorem ok_l_draw {k : Nat} (h : Lv P w K mg base k) : FnH P w K mg base (k + 1) "_law_draw" (spI (fx K w) 2 (env (k + 1)).i_l_draw) := by
  obtain ⟨fd, FD⟩ := T.sy.d.def_ 16 (d := ⟨("_law_draw", none), "_law_draw", "_law_draw", defArgs (top 28), defBody (top 28), defScope (top 28), [], []⟩) rfl
  exact ⟨_, fd, ["_law_draws", "_law_size"], He.glo_ok X0 G0 (T.sy.d.fact 16 (f := .glo "_law_draw") rfl), FD.kp, FD.bindsN (fun _ _ _ _ _ _ us hl => match us, hl with | [_, _], _ => rfl), fo_l_draw T X0 G0 h FD⟩
theorem sc_l_plain : FnScope ["_law_draws", "_law_words", "_law_word", "_law_a"] ["_law_draws"] (defScope (top 29)) := ⟨rfl, rfl, rfl, by decide +kernel, rfl, by decide +kernel, by decide +kernel⟩
include T X0 G0 in
theorem fo_l_plain {k : Nat} {fd : FuncData} (h : Lv P w K mg base k) (FD2 : FunD K "_law_plain" "_law_plain" (defArgs (top 29)) (defBody (top 29)) (defScope (top 29)) [] [] (He.ga K "_law_plain") fd) : FnOk P w K mg base (L2.CX P w) (k + 1) (He.ga K "_law_plain") fd ["_law_draws"] (spI (fx K w) 1 (env (k + 1)).i_l_plain) := by
  have e0 : (env (k + 1)).i_l_plain = runI 4 (d_l_plain (env k)) := rfl
  rw [e0]
  have q0 := fn_inp (P := P) (w := w) (mg := mg) (base := base) (k := k) (F := fx K w) (d := d_l_plain (env k)) FD2 sc_l_plain
  refine q0 fun cdv A outer s H E io hr => ?_
  have nd := sc_l_plain.nd
  refine ss_cons ?_ ?_
  · refine st_set (i := 1) nd rfl (.inl rfl) ?_ (by rfl) (by first | exact .inl rfl | exact .inr rfl | assumption)
    · refine pp_lst ?_
      · refine pq_cons ?_ ?_ (by rfl)
        · exact pp_str
        · refine pq_cons ?_ ?_ (by rfl)
          · exact pp_str
          · refine pq_cons ?_ ?_ (by rfl)
            · exact pp_str
            · refine pq_cons ?_ ?_ (by rfl)
              · exact pp_str
              · refine pq_cons ?_ ?_ (by rfl)
                · exact pp_str
                · refine pq_cons ?_ ?_ (by rfl)
                  · exact pp_str
                  · refine pq_cons ?_ ?_ (by rfl)
                    · exact pp_str
                    · refine pq_cons ?_ ?_ (by rfl)
                      · exact pp_str
                      · refine pq_cons ?_ ?_ (by rfl)
                        · exact pp_str
                        · refine pq_cons ?_ ?_ (by rfl)
                          · exact pp_str
                          · exact pq_nil
  · refine ss_cons ?_ ?_
    · refine st_set (i := 2) nd rfl (.inl rfl) ?_ (by rfl) (by first | exact .inl rfl | exact .inr rfl | assumption)
      · refine pp_ix rfl ?_ ?_ (by intro _ _; rfl)
        · exact pp_var (pv 1)
        · refine pci h.f_l_draw (takes_of rfl rfl rfl rfl) hr rfl (pv 0) ?_ (by decide) (by rfl) (by rfl)
          · refine pq_cons ?_ ?_ (by rfl)
            · exact pp_int
            · exact pq_nil
    · refine ss_cons ?_ ?_
      · refine st_set (i := 3) nd rfl (.inl rfl) ?_ (by rfl) (by first | exact .inl rfl | exact .inr rfl | assumption)
        · refine pci h.f_l_draw (takes_of rfl rfl rfl rfl) hr rfl (pv 0) ?_ (by decide) (by rfl) (by rfl)
          · refine pq_cons ?_ ?_ (by rfl)
            · exact pp_int
            · exact pq_nil
      · refine ss_cons ?_ ?_
        · refine st_if ?_ ?_ ?_
          · refine pt_cmp' (op_eqD hr.units) (c_eq rfl).bin ?_ ?_ (nomark _)
            · exact pp_var (pv 2)
            · exact pp_str
          · refine ss_one ?_
            · refine st_ret ?_
              · refine pp_tup ?_
                · refine pq_cons ?_ ?_ (by rfl)
                  · refine pp_ix rfl ?_ ?_ (by intro _ _; rfl)
                    · refine pp_lst ?_
                      · refine pq_cons ?_ ?_ (by rfl)
                        · exact pp_str
                        · refine pq_cons ?_ ?_ (by rfl)
                          · exact pp_str
                          · exact pq_nil
                    · refine pci h.f_l_draw (takes_of rfl rfl rfl rfl) hr rfl (pv 0) ?_ (by decide) (by rfl) (by rfl)
                      · refine pq_cons ?_ ?_ (by rfl)
                        · exact pp_int
                        · exact pq_nil
                  · exact pq_nil
          · exact ss_nil
        · refine ss_cons ?_ ?_
          · refine st_if ?_ ?_ ?_
            · refine pt_cmp' (op_inA hr.u65) (c_in rfl).bin ?_ ?_ rfl
              · exact pp_var (pv 2)
              · refine pp_lst ?_
                · refine pq_cons ?_ ?_ (by rfl)
                  · exact pp_str
                  · refine pq_cons ?_ ?_ (by rfl)
                    · exact pp_str
                    · refine pq_cons ?_ ?_ (by rfl)
                      · exact pp_str
                      · exact pq_nil
            · refine ss_one ?_
              · refine st_ret ?_
                · refine pp_tup ?_
                  · refine pq_cons ?_ ?_ (by rfl)
                    · exact pp_var (pv 2)
                    · refine pq_cons ?_ ?_ (by rfl)
                      · exact pp_var (pv 3)
                      · exact pq_nil
            · exact ss_nil
          · refine ss_one ?_
            · refine st_ret ?_
              · refine pp_tup ?_
                · refine pq_cons ?_ ?_ (by rfl)
                  · exact pp_var (pv 2)
                  · refine pq_cons ?_ ?_ (by rfl)
                    · exact pp_var (pv 3)
                    · refine pq_cons ?_ ?_ (by rfl)
                      · refine pp_ix rfl ?_ ?_ (by intro _ _; rfl)
                        · refine pp_lst ?_
                          · refine pq_cons ?_ ?_ (by rfl)
                            · exact pp_int
                            · refine pq_cons ?_ ?_ (by rfl)
                              · exact pp_int
                              · refine pq_cons ?_ ?_ (by rfl)
                                · exact pp_int
                                · refine pq_cons ?_ ?_ (by rfl)
                                  · exact pp_int
                                  · refine pq_cons ?_ ?_ (by rfl)
                                    · exact pp_int
                                    · exact pq_nil
                        · refine pci h.f_l_draw (takes_of rfl rfl rfl rfl) hr rfl (pv 0) ?_ (by decide) (by rfl) (by rfl)
                          · refine pq_cons ?_ ?_ (by rfl)
                            · exact pp_int
                            · exact pq_nil
                      · exact pq_nil
include T X0 G0 in
theorem ok_l_plain {k : Nat} (h : Lv P w K mg base k) : FnH P w K mg base (k + 1) "_law_plain" (spI (fx K w) 1 (env (k + 1)).i_l_plain) := by
  obtain ⟨fd, FD⟩ := T.sy.d.def_ 17 (d := ⟨("_law_plain", none), "_law_plain", "_law_plain", defArgs (top 29), defBody (top 29), defScope (top 29), [], []⟩) rfl
  exact ⟨_, fd, ["_law_draws"], He.glo_ok X0 G0 (T.sy.d.fact 17 (f := .glo "_law_plain") rfl), FD.kp, FD.bindsN (fun _ _ _ _ _ _ us hl => match us, hl with | [_], _ => rfl), fo_l_plain T X0 G0 h FD⟩
theorem sc_l_region : FnScope ["_law_draws", "_law_deep", "_law_word", "_law_one"] ["_law_draws", "_law_deep"] (defScope (top 30)) := ⟨rfl, rfl, rfl, by decide +kernel, rfl, by decide +kernel, by decide +kernel⟩
include T X0 G0 in
theorem fo_l_region {k : Nat} {fd : FuncData} (h : Lv P w K mg base k) (FD2 : FunD K "_law_region" "_law_region" (defArgs (top 30)) (defBody (top 30)) (defScope (top 30)) [] [] (He.ga K "_law_region") fd) : FnOk P w K mg base (L2.CX P w) (k + 1) (He.ga K "_law_region") fd ["_law_draws", "_law_deep"] (spI (fx K w) 2 (env (k + 1)).i_l_region) := by
  have e0 : (env (k + 1)).i_l_region = runI 4 (d_l_region (env k)) := rfl
  rw [e0]
  have q0 := fn_inp (P := P) (w := w) (mg := mg) (base := base) (k := k) (F := fx K w) (d := d_l_region (env k)) FD2 sc_l_region
  refine q0 fun cdv A outer s H E io hr => ?_
  have nd := sc_l_region.nd
  refine ss_cons ?_ ?_
  · refine st_set (i := 2) nd rfl (.inl rfl) ?_ (by rfl) (by first | exact .inl rfl | exact .inr rfl | assumption)
    · refine pp_ix rfl ?_ ?_ (by intro _ _; rfl)
      · refine pp_lst ?_
        · refine pq_cons ?_ ?_ (by rfl)
          · exact pp_str
          · refine pq_cons ?_ ?_ (by rfl)
            · exact pp_str
            · refine pq_cons ?_ ?_ (by rfl)
              · exact pp_str
              · refine pq_cons ?_ ?_ (by rfl)
                · exact pp_str
                · refine pq_cons ?_ ?_ (by rfl)
                  · exact pp_str
                  · refine pq_cons ?_ ?_ (by rfl)
                    · exact pp_str
                    · refine pq_cons ?_ ?_ (by rfl)
                      · exact pp_str
                      · refine pq_cons ?_ ?_ (by rfl)
                        · exact pp_str
                        · exact pq_nil
      · refine pci h.f_l_draw (takes_of rfl rfl rfl rfl) hr rfl (pv 0) ?_ (by decide) (by rfl) (by rfl)
        · refine pq_cons ?_ ?_ (by rfl)
          · exact pp_int
          · exact pq_nil
  · refine ss_cons ?_ ?_
    · refine st_if ?_ ?_ ?_
      · refine PW.pt ?_
        · refine qw_or ?_ ?_
          · refine pt_cmp' op_le c_le.bin ?_ ?_ (nomark _)
            · exact pp_var (pv 1)
            · exact pp_int
          · refine qw_or1 ?_
            · refine pt_cmp' (op_eqD hr.units) (c_eq rfl).bin ?_ ?_ (nomark _)
              · exact pp_var (pv 2)
              · exact pp_str
      · refine ss_one ?_
        · refine st_ret ?_
          · refine pci h.f_l_plain (takes_of rfl rfl rfl rfl) hr rfl (pv 0) ?_ (by decide) (by rfl) (by rfl)
            · exact pq_nil
      · exact ss_nil
    · refine ss_cons ?_ ?_
      · refine st_set (i := 3) nd rfl (.inl rfl) ?_ (by rfl) (by first | exact .inl rfl | exact .inr rfl | assumption)
        · refine pci h.f_l_region (takes_of rfl rfl rfl rfl) hr rfl (pv 0) ?_ (by decide) (by rfl) (by rfl)
          · refine pq_cons ?_ ?_ (by rfl)
            · refine pp_op op_sub b_sub ?_ ?_
              · exact pp_var (pv 1)
              · exact pp_int
            · exact pq_nil
      · refine ss_cons ?_ ?_
        · refine st_if ?_ ?_ ?_
          · refine pt_cmp' (op_inA hr.u65) (c_in rfl).bin ?_ ?_ rfl
            · exact pp_var (pv 2)
            · refine pp_lst ?_
              · refine pq_cons ?_ ?_ (by rfl)
                · exact pp_str
                · refine pq_cons ?_ ?_ (by rfl)
                  · exact pp_str
                  · exact pq_nil
          · refine ss_one ?_
            · refine st_ret ?_
              · refine pp_tup ?_
                · refine pq_cons ?_ ?_ (by rfl)
                  · exact pp_var (pv 2)
                  · refine pq_cons ?_ ?_ (by rfl)
                    · exact pp_var (pv 3)
                    · refine pq_cons ?_ ?_ (by rfl)
                      · refine pci h.f_l_region (takes_of rfl rfl rfl rfl) hr rfl (pv 0) ?_ (by decide) (by rfl) (by rfl)
                        · refine pq_cons ?_ ?_ (by rfl)
                          · refine pp_op op_sub b_sub ?_ ?_
                            · exact pp_var (pv 1)
                            · exact pp_int
                          · exact pq_nil
                      · exact pq_nil
          · exact ss_nil
        · refine ss_cons ?_ ?_
          · refine st_if ?_ ?_ ?_
            · refine pt_cmp' (op_eqD hr.units) (c_eq rfl).bin ?_ ?_ (nomark _)
              · exact pp_var (pv 2)
              · exact pp_str
            · refine ss_one ?_
              · refine st_ret ?_
                · refine pp_tup ?_
                  · refine pq_cons ?_ ?_ (by rfl)
                    · exact pp_var (pv 2)
                    · refine pq_cons ?_ ?_ (by rfl)
                      · refine pp_op op_sub b_sub ?_ ?_
                        · refine pci h.f_l_draw (takes_of rfl rfl rfl rfl) hr rfl (pv 0) ?_ (by decide) (by rfl) (by rfl)
                          · refine pq_cons ?_ ?_ (by rfl)
                            · exact pp_int
                            · exact pq_nil
                        · exact pp_int
                      · refine pq_cons ?_ ?_ (by rfl)
                        · refine pp_op op_sub b_sub ?_ ?_
                          · refine pci h.f_l_draw (takes_of rfl rfl rfl rfl) hr rfl (pv 0) ?_ (by decide) (by rfl) (by rfl)
                            · refine pq_cons ?_ ?_ (by rfl)
                              · exact pp_int
                              · exact pq_nil
                          · exact pp_int
                        · refine pq_cons ?_ ?_ (by rfl)
                          · exact pp_var (pv 3)
                          · exact pq_nil
            · exact ss_nil
          · refine ss_one ?_
            · refine st_ret ?_
              · refine pp_tup ?_
                · refine pq_cons ?_ ?_ (by rfl)
                  · exact pp_var (pv 2)
                  · refine pq_cons ?_ ?_ (by rfl)
                    · exact pp_var (pv 3)
                    · exact pq_nil
include T X0 G0 in
theorem ok_l_region {k : Nat} (h : Lv P w K mg base k) : FnH P w K mg base (k + 1) "_law_region" (spI (fx K w) 2 (env (k + 1)).i_l_region) := by
  obtain ⟨fd, FD⟩ := T.sy.d.def_ 18 (d := ⟨("_law_region", none), "_law_region", "_law_region", defArgs (top 30), defBody (top 30), defScope (top 30), [], []⟩) rfl
  exact ⟨_, fd, ["_law_draws", "_law_deep"], He.glo_ok X0 G0 (T.sy.d.fact 18 (f := .glo "_law_region") rfl), FD.kp, FD.bindsN (fun _ _ _ _ _ _ us hl => match us, hl with | [_, _], _ => rfl), fo_l_region T X0 G0 h FD⟩
theorem sc_l_row : FnScope ["_law_place", "_law_a", "_law_k"] ["_law_place", "_law_a", "_law_k"] (defScope (top 31)) := ⟨rfl, rfl, rfl, by decide +kernel, rfl, by decide +kernel, by decide +kernel⟩
include T X0 G0 in
theorem fo_l_row {k : Nat} {fd : FuncData} (h : Lv P w K mg base k) (FD2 : FunD K "_law_row" "_law_row" (defArgs (top 31)) (defBody (top 31)) (defScope (top 31)) [] [] (He.ga K "_law_row") fd) : FnOk P w K mg base (L2.CX P w) (k + 1) (He.ga K "_law_row") fd ["_law_place", "_law_a", "_law_k"] (spP (fx K w) 3 (env (k + 1)).p_l_row) := by
  have e0 : (env (k + 1)).p_l_row = runB 3 (d_l_row (env k)) := rfl
  rw [e0]
  have q0 := fn_pure (P := P) (w := w) (mg := mg) (base := base) (k := k) (F := fx K w) (d := d_l_row (env k)) FD2 sc_l_row
  refine q0 fun cdv A outer s H E hr => ?_
  have nd := sc_l_row.nd
  refine ss_cons ?_ ?_
  · refine st_if ?_ ?_ ?_
    · refine pt_cmp' (op_eqD hr.units) (c_eq rfl).bin ?_ ?_ (nomark _)
      · exact pp_var (pv 2)
      · exact pp_int
    · refine ss_one ?_
      · refine st_ret ?_
        · refine pp_cmp (op_eqD hr.units) (c_eq rfl).bin ?_ ?_ (nomark _)
          · exact pp_var (pv 0)
          · exact pp_var (pv 1)
    · exact ss_nil
  · refine ss_one ?_
    · refine st_ret ?_
      · refine pp_and ?_ ?_
        · refine pp_cmp op_ge c_ge.bin ?_ ?_ (nomark _)
          · exact pp_var (pv 0)
          · exact pp_var (pv 1)
        · refine pp_one ?_
          · refine pp_cmp (op_eqD hr.units) (c_eq rfl).bin ?_ ?_ (nomark _)
            · refine pp_op op_mod b_mod ?_ ?_
              · refine pp_op op_sub b_sub ?_ ?_
                · exact pp_var (pv 0)
                · exact pp_var (pv 1)
              · exact pp_var (pv 2)
            · exact pp_int
include T X0 G0 in
theorem ok_l_row {k : Nat} (h : Lv P w K mg base k) : FnH P w K mg base (k + 1) "_law_row" (spP (fx K w) 3 (env (k + 1)).p_l_row) := by
  obtain ⟨fd, FD⟩ := T.sy.d.def_ 19 (d := ⟨("_law_row", none), "_law_row", "_law_row", defArgs (top 31), defBody (top 31), defScope (top 31), [], []⟩) rfl
  exact ⟨_, fd, ["_law_place", "_law_a", "_law_k"], He.glo_ok X0 G0 (T.sy.d.fact 19 (f := .glo "_law_row") rfl), FD.kp, FD.bindsN (fun _ _ _ _ _ _ us hl => match us, hl with | [_, _, _], _ => rfl), fo_l_row T X0 G0 h FD⟩
theorem sc_l_has : FnScope ["_law_region_here", "_law_n", "_law_m", "_law_i", "_law_j", "_law_word", "_law_first"] ["_law_region_here", "_law_n", "_law_m", "_law_i", "_law_j"] (defScope (top 32)) := ⟨rfl, rfl, rfl, by decide +kernel, rfl, by decide +kernel, by decide +kernel⟩
include T X0 G0 in
theorem fo_l_has {k : Nat} {fd : FuncData} (h : Lv P w K mg base k) (FD2 : FunD K "_law_has" "_law_has" (defArgs (top 32)) (defBody (top 32)) (defScope (top 32)) [] [] (He.ga K "_law_has") fd) : FnOk P w K mg base (L2.CX P w) (k + 1) (He.ga K "_law_has") fd ["_law_region_here", "_law_n", "_law_m", "_law_i", "_law_j"] (spP (fx K w) 5 (env (k + 1)).p_l_has) := by
  have e0 : (env (k + 1)).p_l_has = runB 7 (d_l_has (env k)) := rfl
  rw [e0]
  have q0 := fn_pure (P := P) (w := w) (mg := mg) (base := base) (k := k) (F := fx K w) (d := d_l_has (env k)) FD2 sc_l_has
  refine q0 fun cdv A outer s H E hr => ?_
  have nd := sc_l_has.nd
  refine ss_cons ?_ ?_
  · refine st_set (i := 5) nd rfl (.inl rfl) ?_ (by rfl) (by first | exact .inl rfl | exact .inr rfl | assumption)
    · refine pp_ix rfl ?_ ?_ (by intro _ _; rfl)
      · exact pp_var (pv 0)
      · exact pp_int
  · refine ss_cons ?_ ?_
    · refine st_if ?_ ?_ ?_
      · refine pt_cmp' (op_inA hr.u65) (c_in rfl).bin ?_ ?_ rfl
        · exact pp_var (pv 5)
        · refine pp_lst ?_
          · refine pq_cons ?_ ?_ (by rfl)
            · exact pp_str
            · refine pq_cons ?_ ?_ (by rfl)
              · exact pp_str
              · exact pq_nil
      · refine ss_one ?_
        · refine st_ret ?_
          · refine pp_cmp (op_eqD hr.units) (c_eq rfl).bin ?_ ?_ (nomark _)
            · exact pp_var (pv 5)
            · exact pp_str
      · exact ss_nil
    · refine ss_cons ?_ ?_
      · refine st_if ?_ ?_ ?_
        · refine pt_cmp' (op_eqD hr.units) (c_eq rfl).bin ?_ ?_ (nomark _)
          · exact pp_var (pv 5)
          · exact pp_str
        · refine ss_one ?_
          · refine st_ret ?_
            · refine pp_cmp op_ge c_ge.bin ?_ ?_ (nomark _)
              · exact pp_var (pv 1)
              · refine pp_ix rfl ?_ ?_ (by intro _ _; rfl)
                · exact pp_var (pv 0)
                · exact pp_int
        · exact ss_nil
      · refine ss_cons ?_ ?_
        · refine st_if ?_ ?_ ?_
          · refine pt_cmp' (op_eqD hr.units) (c_eq rfl).bin ?_ ?_ (nomark _)
            · exact pp_var (pv 5)
            · exact pp_str
          · refine ss_one ?_
            · refine st_ret ?_
              · refine pp_cmp op_ge c_ge.bin ?_ ?_ (nomark _)
                · exact pp_var (pv 2)
                · refine pp_ix rfl ?_ ?_ (by intro _ _; rfl)
                  · exact pp_var (pv 0)
                  · exact pp_int
          · exact ss_nil
        · refine ss_cons ?_ ?_
          · refine st_if ?_ ?_ ?_
            · refine pt_cmp' (op_eqD hr.units) (c_eq rfl).bin ?_ ?_ (nomark _)
              · exact pp_var (pv 5)
              · exact pp_str
            · refine ss_one ?_
              · refine st_ret ?_
                · refine pp_or ?_ ?_
                  · refine pp_cmp op_lt c_lt.bin ?_ ?_ (nomark _)
                    · exact pp_var (pv 3)
                    · refine pp_ix rfl ?_ ?_ (by intro _ _; rfl)
                      · exact pp_var (pv 0)
                      · exact pp_int
                  · refine pp_or ?_ ?_
                    · refine pp_cmp op_lt c_lt.bin ?_ ?_ (nomark _)
                      · exact pp_var (pv 4)
                      · refine pp_ix rfl ?_ ?_ (by intro _ _; rfl)
                        · exact pp_var (pv 0)
                        · exact pp_int
                    · refine pp_or ?_ ?_
                      · refine pp_cmp op_le c_le.bin ?_ ?_ (nomark _)
                        · refine pp_op op_sub b_sub ?_ ?_
                          · exact pp_var (pv 1)
                          · exact pp_var (pv 3)
                        · refine pp_ix rfl ?_ ?_ (by intro _ _; rfl)
                          · exact pp_var (pv 0)
                          · exact pp_int
                      · refine pp_one ?_
                        · refine pp_cmp op_le c_le.bin ?_ ?_ (nomark _)
                          · refine pp_op op_sub b_sub ?_ ?_
                            · exact pp_var (pv 2)
                            · exact pp_var (pv 4)
                          · refine pp_ix rfl ?_ ?_ (by intro _ _; rfl)
                            · exact pp_var (pv 0)
                            · exact pp_int
            · exact ss_nil
          · refine ss_cons ?_ ?_
            · refine st_if ?_ ?_ ?_
              · refine pt_cmp' (op_eqD hr.units) (c_eq rfl).bin ?_ ?_ (nomark _)
                · exact pp_var (pv 5)
                · exact pp_str
              · refine ss_one ?_
                · refine st_ret ?_
                  · refine pc h.f_l_row (takes_of rfl rfl rfl rfl) hr rfl ?_ (by rfl) (by decide) (by rfl) (by rfl)
                    · refine pq_cons ?_ ?_ (by rfl)
                      · exact pp_var (pv 3)
                      · refine pq_cons ?_ ?_ (by rfl)
                        · refine pp_ix rfl ?_ ?_ (by intro _ _; rfl)
                          · exact pp_var (pv 0)
                          · exact pp_int
                        · refine pq_cons ?_ ?_ (by rfl)
                          · refine pp_ix rfl ?_ ?_ (by intro _ _; rfl)
                            · exact pp_var (pv 0)
                            · exact pp_int
                          · exact pq_nil
              · exact ss_nil
            · refine ss_cons ?_ ?_
              · refine st_if ?_ ?_ ?_
                · refine pt_cmp' (op_eqD hr.units) (c_eq rfl).bin ?_ ?_ (nomark _)
                  · exact pp_var (pv 5)
                  · exact pp_str
                · refine ss_one ?_
                  · refine st_ret ?_
                    · refine pc h.f_l_row (takes_of rfl rfl rfl rfl) hr rfl ?_ (by rfl) (by decide) (by rfl) (by rfl)
                      · refine pq_cons ?_ ?_ (by rfl)
                        · refine pp_op op_sub b_sub ?_ ?_
                          · refine pp_op op_sub b_sub ?_ ?_
                            · exact pp_var (pv 1)
                            · exact pp_int
                          · exact pp_var (pv 3)
                        · refine pq_cons ?_ ?_ (by rfl)
                          · refine pp_ix rfl ?_ ?_ (by intro _ _; rfl)
                            · exact pp_var (pv 0)
                            · exact pp_int
                          · refine pq_cons ?_ ?_ (by rfl)
                            · refine pp_ix rfl ?_ ?_ (by intro _ _; rfl)
                              · exact pp_var (pv 0)
                              · exact pp_int
                            · exact pq_nil
                · exact ss_nil
              · refine ss_cons ?_ ?_
                · refine st_if ?_ ?_ ?_
                  · refine pt_cmp' (op_eqD hr.units) (c_eq rfl).bin ?_ ?_ (nomark _)
                    · exact pp_var (pv 5)
                    · exact pp_str
                  · refine ss_one ?_
                    · refine st_ret ?_
                      · refine pc h.f_l_row (takes_of rfl rfl rfl rfl) hr rfl ?_ (by rfl) (by decide) (by rfl) (by rfl)
                        · refine pq_cons ?_ ?_ (by rfl)
                          · exact pp_var (pv 4)
                          · refine pq_cons ?_ ?_ (by rfl)
                            · refine pp_ix rfl ?_ ?_ (by intro _ _; rfl)
                              · exact pp_var (pv 0)
                              · exact pp_int
                            · refine pq_cons ?_ ?_ (by rfl)
                              · refine pp_ix rfl ?_ ?_ (by intro _ _; rfl)
                                · exact pp_var (pv 0)
                                · exact pp_int
                              · exact pq_nil
                  · exact ss_nil
                · refine ss_cons ?_ ?_
                  · refine st_if ?_ ?_ ?_
                    · refine pt_cmp' (op_eqD hr.units) (c_eq rfl).bin ?_ ?_ (nomark _)
                      · exact pp_var (pv 5)
                      · exact pp_str
                    · refine ss_one ?_
                      · refine st_ret ?_
                        · refine pc h.f_l_row (takes_of rfl rfl rfl rfl) hr rfl ?_ (by rfl) (by decide) (by rfl) (by rfl)
                          · refine pq_cons ?_ ?_ (by rfl)
                            · refine pp_op op_sub b_sub ?_ ?_
                              · refine pp_op op_sub b_sub ?_ ?_
                                · exact pp_var (pv 2)
                                · exact pp_int
                              · exact pp_var (pv 4)
                            · refine pq_cons ?_ ?_ (by rfl)
                              · refine pp_ix rfl ?_ ?_ (by intro _ _; rfl)
                                · exact pp_var (pv 0)
                                · exact pp_int
                              · refine pq_cons ?_ ?_ (by rfl)
                                · refine pp_ix rfl ?_ ?_ (by intro _ _; rfl)
                                  · exact pp_var (pv 0)
                                  · exact pp_int
                                · exact pq_nil
                    · exact ss_nil
                  · refine ss_cons ?_ ?_
                    · refine st_if ?_ ?_ ?_
                      · refine pt_cmp' (op_eqD hr.units) (c_eq rfl).bin ?_ ?_ (nomark _)
                        · exact pp_var (pv 5)
                        · exact pp_str
                      · refine ss_one ?_
                        · refine st_ret ?_
                          · refine pc h.f_l_has (takes_of rfl rfl rfl rfl) hr rfl ?_ (by rfl) (by decide) (by rfl) (by rfl)
                            · refine pq_cons ?_ ?_ (by rfl)
                              · refine pp_ix rfl ?_ ?_ (by intro _ _; rfl)
                                · exact pp_var (pv 0)
                                · exact pp_int
                              · refine pq_cons ?_ ?_ (by rfl)
                                · exact pp_var (pv 2)
                                · refine pq_cons ?_ ?_ (by rfl)
                                  · exact pp_var (pv 1)
                                  · refine pq_cons ?_ ?_ (by rfl)
                                    · exact pp_var (pv 4)
                                    · refine pq_cons ?_ ?_ (by rfl)
                                      · exact pp_var (pv 3)
                                      · exact pq_nil
                      · exact ss_nil
                    · refine ss_cons ?_ ?_
                      · refine st_if ?_ ?_ ?_
                        · refine pt_cmp' (op_eqD hr.units) (c_eq rfl).bin ?_ ?_ (nomark _)
                          · exact pp_var (pv 5)
                          · exact pp_str
                        · refine ss_one ?_
                          · refine st_ret ?_
                            · refine pc h.f_l_has (takes_of rfl rfl rfl rfl) hr rfl ?_ (by rfl) (by decide) (by rfl) (by rfl)
                              · refine pq_cons ?_ ?_ (by rfl)
                                · refine pp_ix rfl ?_ ?_ (by intro _ _; rfl)
                                  · exact pp_var (pv 0)
                                  · exact pp_int
                                · refine pq_cons ?_ ?_ (by rfl)
                                  · exact pp_var (pv 1)
                                  · refine pq_cons ?_ ?_ (by rfl)
                                    · exact pp_var (pv 2)
                                    · refine pq_cons ?_ ?_ (by rfl)
                                      · refine pp_op op_sub b_sub ?_ ?_
                                        · refine pp_op op_sub b_sub ?_ ?_
                                          · exact pp_var (pv 1)
                                          · exact pp_int
                                        · exact pp_var (pv 3)
                                      · refine pq_cons ?_ ?_ (by rfl)
                                        · exact pp_var (pv 4)
                                        · exact pq_nil
                        · exact ss_nil
                      · refine ss_cons ?_ ?_
                        · refine st_if ?_ ?_ ?_
                          · refine pt_cmp' (op_eqD hr.units) (c_eq rfl).bin ?_ ?_ (nomark _)
                            · exact pp_var (pv 5)
                            · exact pp_str
                          · refine ss_one ?_
                            · refine st_ret ?_
                              · refine pc h.f_l_has (takes_of rfl rfl rfl rfl) hr rfl ?_ (by rfl) (by decide) (by rfl) (by rfl)
                                · refine pq_cons ?_ ?_ (by rfl)
                                  · refine pp_ix rfl ?_ ?_ (by intro _ _; rfl)
                                    · exact pp_var (pv 0)
                                    · exact pp_int
                                  · refine pq_cons ?_ ?_ (by rfl)
                                    · exact pp_var (pv 1)
                                    · refine pq_cons ?_ ?_ (by rfl)
                                      · exact pp_var (pv 2)
                                      · refine pq_cons ?_ ?_ (by rfl)
                                        · exact pp_var (pv 3)
                                        · refine pq_cons ?_ ?_ (by rfl)
                                          · refine pp_op op_sub b_sub ?_ ?_
                                            · refine pp_op op_sub b_sub ?_ ?_
                                              · exact pp_var (pv 2)
                                              · exact pp_int
                                            · exact pp_var (pv 4)
                                          · exact pq_nil
                          · exact ss_nil
                        · refine ss_cons ?_ ?_
                          · refine st_if ?_ ?_ ?_
                            · refine pt_cmp' (op_eqD hr.units) (c_eq rfl).bin ?_ ?_ (nomark _)
                              · exact pp_var (pv 5)
                              · exact pp_str
                            · refine ss_cons ?_ ?_
                              · refine st_set (i := 3) nd rfl (.inl rfl) ?_ (by rfl) (by first | exact .inl rfl | exact .inr rfl | assumption)
                                · refine pp_op op_sub b_sub ?_ ?_
                                  · exact pp_var (pv 3)
                                  · refine pp_ix rfl ?_ ?_ (by intro _ _; rfl)
                                    · exact pp_var (pv 0)
                                    · exact pp_int
                              · refine ss_cons ?_ ?_
                                · refine st_set (i := 4) nd rfl (.inl rfl) ?_ (by rfl) (by first | exact .inl rfl | exact .inr rfl | assumption)
                                  · refine pp_op op_sub b_sub ?_ ?_
                                    · exact pp_var (pv 4)
                                    · refine pp_ix rfl ?_ ?_ (by intro _ _; rfl)
                                      · exact pp_var (pv 0)
                                      · exact pp_int
                                · refine ss_one ?_
                                  · refine st_ret ?_
                                    · refine pp_and ?_ ?_
                                      · refine pp_chain op_le op_lt c_le c_lt.bin ?_ ?_ ?_ (by with_unfolding_all rfl)
                                        · exact pp_int
                                        · exact pp_var (pv 3)
                                        · exact pp_var (pv 1)
                                      · refine pp_and ?_ ?_
                                        · refine pp_chain op_le op_lt c_le c_lt.bin ?_ ?_ ?_ (by with_unfolding_all rfl)
                                          · exact pp_int
                                          · exact pp_var (pv 4)
                                          · exact pp_var (pv 2)
                                        · refine pp_one ?_
                                          · refine pc h.f_l_has (takes_of rfl rfl rfl rfl) hr rfl ?_ (by rfl) (by decide) (by rfl) (by rfl)
                                            · refine pq_cons ?_ ?_ (by rfl)
                                              · refine pp_ix rfl ?_ ?_ (by intro _ _; rfl)
                                                · exact pp_var (pv 0)
                                                · exact pp_int
                                              · refine pq_cons ?_ ?_ (by rfl)
                                                · exact pp_var (pv 1)
                                                · refine pq_cons ?_ ?_ (by rfl)
                                                  · exact pp_var (pv 2)
                                                  · refine pq_cons ?_ ?_ (by rfl)
                                                    · exact pp_var (pv 3)
                                                    · refine pq_cons ?_ ?_ (by rfl)
                                                      · exact pp_var (pv 4)
                                                      · exact pq_nil
                            · exact ss_nil
                          · refine ss_cons ?_ ?_
                            · refine st_if ?_ ?_ ?_
                              · refine pt_cmp' (op_eqD hr.units) (c_eq rfl).bin ?_ ?_ (nomark _)
                                · exact pp_var (pv 5)
                                · exact pp_str
                              · refine ss_one ?_
                                · refine st_ret ?_
                                  · refine pp_not ?_
                                    · refine pc h.f_l_has (takes_of rfl rfl rfl rfl) hr rfl ?_ (by rfl) (by decide) (by rfl) (by rfl)
                                      · refine pq_cons ?_ ?_ (by rfl)
                                        · refine pp_ix rfl ?_ ?_ (by intro _ _; rfl)
                                          · exact pp_var (pv 0)
                                          · exact pp_int
                                        · refine pq_cons ?_ ?_ (by rfl)
                                          · exact pp_var (pv 1)
                                          · refine pq_cons ?_ ?_ (by rfl)
                                            · exact pp_var (pv 2)
                                            · refine pq_cons ?_ ?_ (by rfl)
                                              · exact pp_var (pv 3)
                                              · refine pq_cons ?_ ?_ (by rfl)
                                                · exact pp_var (pv 4)
                                                · exact pq_nil
                              · exact ss_nil
                            · refine ss_cons ?_ ?_
                              · refine st_set (i := 6) nd rfl (.inl rfl) ?_ (by rfl) (by first | exact .inl rfl | exact .inr rfl | assumption)
                                · refine pc h.f_l_has (takes_of rfl rfl rfl rfl) hr rfl ?_ (by rfl) (by decide) (by rfl) (by rfl)
                                  · refine pq_cons ?_ ?_ (by rfl)
                                    · refine pp_ix rfl ?_ ?_ (by intro _ _; rfl)
                                      · exact pp_var (pv 0)
                                      · exact pp_int
                                    · refine pq_cons ?_ ?_ (by rfl)
                                      · exact pp_var (pv 1)
                                      · refine pq_cons ?_ ?_ (by rfl)
                                        · exact pp_var (pv 2)
                                        · refine pq_cons ?_ ?_ (by rfl)
                                          · exact pp_var (pv 3)
                                          · refine pq_cons ?_ ?_ (by rfl)
                                            · exact pp_var (pv 4)
                                            · exact pq_nil
                              · refine ss_cons ?_ ?_
                                · refine st_if ?_ ?_ ?_
                                  · refine pt_cmp' (op_eqD hr.units) (c_eq rfl).bin ?_ ?_ (nomark _)
                                    · exact pp_var (pv 5)
                                    · exact pp_str
                                  · refine ss_one ?_
                                    · refine st_ret ?_
                                      · refine pp_and ?_ ?_
                                        · exact pp_var (pv 6)
                                        · refine pp_one ?_
                                          · refine pc h.f_l_has (takes_of rfl rfl rfl rfl) hr rfl ?_ (by rfl) (by decide) (by rfl) (by rfl)
                                            · refine pq_cons ?_ ?_ (by rfl)
                                              · refine pp_ix rfl ?_ ?_ (by intro _ _; rfl)
                                                · exact pp_var (pv 0)
                                                · exact pp_int
                                              · refine pq_cons ?_ ?_ (by rfl)
                                                · exact pp_var (pv 1)
                                                · refine pq_cons ?_ ?_ (by rfl)
                                                  · exact pp_var (pv 2)
                                                  · refine pq_cons ?_ ?_ (by rfl)
                                                    · exact pp_var (pv 3)
                                                    · refine pq_cons ?_ ?_ (by rfl)
                                                      · exact pp_var (pv 4)
                                                      · exact pq_nil
                                  · exact ss_nil
                                · refine ss_one ?_
                                  · refine st_ret ?_
                                    · refine pp_or ?_ ?_
                                      · exact pp_var (pv 6)
                                      · refine pp_one ?_
                                        · refine pc h.f_l_has (takes_of rfl rfl rfl rfl) hr rfl ?_ (by rfl) (by decide) (by rfl) (by rfl)
                                          · refine pq_cons ?_ ?_ (by rfl)
                                            · refine pp_ix rfl ?_ ?_ (by intro _ _; rfl)
                                              · exact pp_var (pv 0)
                                              · exact pp_int
                                            · refine pq_cons ?_ ?_ (by rfl)
                                              · exact pp_var (pv 1)
                                              · refine pq_cons ?_ ?_ (by rfl)
                                                · exact pp_var (pv 2)
                                                · refine pq_cons ?_ ?_ (by rfl)
                                                  · exact pp_var (pv 3)
                                                  · refine pq_cons ?_ ?_ (by rfl)
                                                    · exact pp_var (pv 4)
                                                    · exact pq_nil
include T X0 G0 in
theorem ok_l_has {k : Nat} (h : Lv P w K mg base k) : FnH P w K mg base (k + 1) "_law_has" (spP (fx K w) 5 (env (k + 1)).p_l_has) := by
  obtain ⟨fd, FD⟩ := T.sy.d.def_ 20 (d := ⟨("_law_has", none), "_law_has", "_law_has", defArgs (top 32), defBody (top 32), defScope (top 32), [], []⟩) rfl
  exact ⟨_, fd, ["_law_region_here", "_law_n", "_law_m", "_law_i", "_law_j"], He.glo_ok X0 G0 (T.sy.d.fact 20 (f := .glo "_law_has") rfl), FD.kp, FD.bindsN (fun _ _ _ _ _ _ us hl => match us, hl with | [_, _, _, _, _], _ => rfl), fo_l_has T X0 G0 h FD⟩
theorem sc_l_cells : FnScope ["_law_region_here", "_law_n", "_law_m", "_law_found", "_law_i", "_law_j"] ["_law_region_here", "_law_n", "_law_m"] (defScope (top 33)) := ⟨rfl, rfl, rfl, by decide +kernel, rfl, by decide +kernel, by decide +kernel⟩
include T X0 G0 in
theorem fo_l_cells {k : Nat} {fd : FuncData} (h : Lv P w K mg base k) (FD2 : FunD K "_law_cells" "_law_cells" (defArgs (top 33)) (defBody (top 33)) (defScope (top 33)) [] [] (He.ga K "_law_cells") fd) : FnOk P w K mg base (L2.CX P w) (k + 1) (He.ga K "_law_cells") fd ["_law_region_here", "_law_n", "_law_m"] (spP (fx K w) 3 (env (k + 1)).p_l_cells) := by
  have e0 : (env (k + 1)).p_l_cells = runB 6 (d_l_cells (env k)) := rfl
  rw [e0]
  have q0 := fn_pure (P := P) (w := w) (mg := mg) (base := base) (k := k) (F := fx K w) (d := d_l_cells (env k)) FD2 sc_l_cells
  refine q0 fun cdv A outer s H E hr => ?_
  have nd := sc_l_cells.nd
  refine ss_cons ?_ ?_
  · refine st_set (i := 3) nd rfl (.inl rfl) ?_ (by rfl) (by first | exact .inl rfl | exact .inr rfl | assumption)
    · refine pp_lst ?_
      · exact pq_nil
  · refine ss_cons ?_ ?_
    · refine st_for (passes_of rfl) rfl ?_ (pg_name (i := 4) nd rfl (by first | exact Or.inl rfl | exact Or.inr rfl)) tg_one ?_ (by intro _; rfl)
      · refine qi_range1 rfl T.n_range ?_ (by rfl)
        · refine pq_cons ?_ ?_ (by rfl)
          · exact pp_var (pv 1)
          · exact pq_nil
      · refine ss_one ?_
        · refine st_set (i := 3) nd rfl (.inl rfl) ?_ (by rfl) (by first | exact .inl rfl | exact .inr rfl | assumption)
          · refine pp_op op_addA (b_add rfl) ?_ ?_
            · exact pp_var (pv 3)
            · refine pp_comp (own := [("_law_j", 5)]) rfl nd ?_ (blkC_of (N' := ["_law_region_here", "_law_n", "_law_m", "_law_found", "_law_i", "_law_j"]) (sc' := defScope (top 33)) rfl rfl (by decide +kernel)) tg_one rfl (fun _ _ _ _ _ => (pg_name (i := 5) nd rfl (by first | exact Or.inl rfl | exact Or.inr rfl))) (fun _ _ _ _ _ => ?_) (fun _ _ _ _ _ => ?_) (by intro _; rfl)
              · refine qi_range1 rfl T.n_range ?_ (by rfl)
                · refine pq_cons ?_ ?_ (by rfl)
                  · exact pp_var (pv 2)
                  · exact pq_nil
              · refine qts_one ?_
                · refine pt_tru rfl ?_ (by intro _; rfl)
                  · refine pc h.f_l_has takes0 hr rfl ?_ (by rfl) (by decide) (by rfl) (by rfl)
                    · refine pq_cons ?_ ?_ (by rfl)
                      · exact pp_var (pv 0)
                      · refine pq_cons ?_ ?_ (by rfl)
                        · exact pp_var (pv 1)
                        · refine pq_cons ?_ ?_ (by rfl)
                          · exact pp_var (pv 2)
                          · refine pq_cons ?_ ?_ (by rfl)
                            · exact pp_var (pv 4)
                            · refine pq_cons ?_ ?_ (by rfl)
                              · exact pp_var (pv 5)
                              · exact pq_nil
              · refine pp_tup ?_
                · refine pq_cons ?_ ?_ (by rfl)
                  · exact pp_var (pv 4)
                  · refine pq_cons ?_ ?_ (by rfl)
                    · exact pp_var (pv 5)
                    · exact pq_nil
    · refine ss_one ?_
      · refine st_ret ?_
        · exact pp_var (pv 3)
include T X0 G0 in
theorem ok_l_cells {k : Nat} (h : Lv P w K mg base k) : FnH P w K mg base (k + 1) "_law_cells" (spP (fx K w) 3 (env (k + 1)).p_l_cells) := by
  obtain ⟨fd, FD⟩ := T.sy.d.def_ 21 (d := ⟨("_law_cells", none), "_law_cells", "_law_cells", defArgs (top 33), defBody (top 33), defScope (top 33), [], []⟩) rfl
  exact ⟨_, fd, ["_law_region_here", "_law_n", "_law_m"], He.glo_ok X0 G0 (T.sy.d.fact 21 (f := .glo "_law_cells") rfl), FD.kp, FD.bindsN (fun _ _ _ _ _ _ us hl => match us, hl with | [_, _, _], _ => rfl), fo_l_cells T X0 G0 h FD⟩
theorem sc_l_refused : FnScope ["_law_region_here", "_law_n", "_law_m", "_law_i", "_law_j", "_law_told"] ["_law_region_here", "_law_n", "_law_m", "_law_i", "_law_j"] (defScope (top 34)) := ⟨rfl, rfl, rfl, by decide +kernel, rfl, by decide +kernel, by decide +kernel⟩
include T X0 G0 in
theorem fo_l_refused {k : Nat} {fd : FuncData} (h : Lv P w K mg base k) (FD2 : FunD K "_law_refused" "_law_refused" (defArgs (top 34)) (defBody (top 34)) (defScope (top 34)) [] [] (He.ga K "_law_refused") fd) : FnOk P w K mg base (L2.CX P w) (k + 1) (He.ga K "_law_refused") fd ["_law_region_here", "_law_n", "_law_m", "_law_i", "_law_j"] (spP (fx K w) 5 (env (k + 1)).p_l_refused) := by
  have e0 : (env (k + 1)).p_l_refused = runB 6 (d_l_refused (env k)) := rfl
  rw [e0]
  have q0 := fn_pure (P := P) (w := w) (mg := mg) (base := base) (k := k) (F := fx K w) (d := d_l_refused (env k)) FD2 sc_l_refused
  refine q0 fun cdv A outer s H E hr => ?_
  have nd := sc_l_refused.nd
  refine ss_cons ?_ ?_
  · refine st_set (i := 5) nd rfl (.inl rfl) ?_ (by rfl) (by first | exact .inl rfl | exact .inr rfl | assumption)
    · exact pp_non
  · refine ss_cons ?_ ?_
    · refine st_try (hs := [(1, (sSet 5 (dC (.str "region")))), (2, (sSet 5 (dC (.str "sheet"))))]) rfl (T.subs.of (by decide)) (by decide) rfl rfl (takes_of rfl rfl rfl rfl) (fun W pn xe tk => ?_) ?_
      · refine ss_one ?_
        · refine st_expr ?_ (by rfl)
          · refine pc h.f_has tk hr rfl ?_ (by rfl) (by decide) (by rfl) (by rfl)
            · refine pq_cons ?_ ?_ (by rfl)
              · exact pp_var (pv 0)
              · refine pq_cons ?_ ?_ (by rfl)
                · exact pp_var (pv 1)
                · refine pq_cons ?_ ?_ (by rfl)
                  · exact pp_var (pv 2)
                  · refine pq_cons ?_ ?_ (by rfl)
                    · exact pp_var (pv 3)
                    · refine pq_cons ?_ ?_ (by rfl)
                      · exact pp_var (pv 4)
                      · exact pq_nil
      · refine HdsOk.cons ⟨rfl, by decide, .inl T.m_BadRegion⟩ (fun _ _ _ _ _ _ _ => ?_) ?_
        · refine ss_one ?_
          · refine st_set (i := 5) nd rfl (.inl rfl) ?_ (by rfl) (by first | exact .inl rfl | exact .inr rfl | assumption)
            · exact pp_str
        · refine HdsOk.cons ⟨rfl, by decide, .inl T.m_BadSheet⟩ (fun _ _ _ _ _ _ _ => ?_) ?_
          · refine ss_one ?_
            · refine st_set (i := 5) nd rfl (.inl rfl) ?_ (by rfl) (by first | exact .inl rfl | exact .inr rfl | assumption)
              · exact pp_str
          · exact HdsOk.nil
    · refine ss_one ?_
      · refine st_ret ?_
        · exact pp_var (pv 5)
include T X0 G0 in
theorem ok_l_refused {k : Nat} (h : Lv P w K mg base k) : FnH P w K mg base (k + 1) "_law_refused" (spP (fx K w) 5 (env (k + 1)).p_l_refused) := by
  obtain ⟨fd, FD⟩ := T.sy.d.def_ 22 (d := ⟨("_law_refused", none), "_law_refused", "_law_refused", defArgs (top 34), defBody (top 34), defScope (top 34), [], []⟩) rfl
  exact ⟨_, fd, ["_law_region_here", "_law_n", "_law_m", "_law_i", "_law_j"], He.glo_ok X0 G0 (T.sy.d.fact 22 (f := .glo "_law_refused") rfl), FD.kp, FD.bindsN (fun _ _ _ _ _ _ us hl => match us, hl with | [_, _, _, _, _], _ => rfl), fo_l_refused T X0 G0 h FD⟩
theorem sc_law_k01 : FnScope ["_law_script", "_law_draws", "_law_region_here", "_law_n", "_law_m", "_law_rows", "_law_i", "_law_signs", "_law_j", "_law_deep", "_law_k", "_law_odd", "_law_thing", "_law_places"] ["_law_script"] (defScope (top 35)) := ⟨rfl, rfl, rfl, by decide +kernel, rfl, by decide +kernel, by decide +kernel⟩
include T X0 G0 in
theorem fo_law_k01 {k : Nat} {fd : FuncData} (h : Lv P w K mg base k) (FD2 : FunD K "law" "law" (defArgs (top 35)) (defBody (top 35)) (defScope (top 35)) [] [] (He.ga K "law") fd) : FnOk P w K mg base (L2.CX P w) (k + 1) (He.ga K "law") fd ["_law_script"] (spP (fx K w) 1 (env (k + 1)).p_law_k01) := by
  have e0 : (env (k + 1)).p_law_k01 = runB 14 (d_law_k01 (env k)) := rfl
  rw [e0]
  have q0 := fn_pure (P := P) (w := w) (mg := mg) (base := base) (k := k) (F := fx K w) (d := d_law_k01 (env k)) FD2 sc_law_k01
  refine q0 fun cdv A outer s H E hr => ?_
  have nd := sc_law_k01.nd
  refine ss_cons ?_ ?_
  · refine sco (i := 1) h.f_l_begin (takes_of rfl rfl rfl rfl) hr nd rfl (.inl rfl) rfl ?_ (by decide) (by rfl) (by rfl) (by rfl) (by first | exact .inl rfl | exact .inr rfl | assumption)
    · refine pq_cons ?_ ?_ (by rfl)
      · exact pp_var (pv 0)
      · exact pq_nil
  · refine ss_cons ?_ ?_
    · refine st_set (i := 2) nd rfl (.inr rfl) ?_ (by rfl) (by first | exact .inl rfl | exact .inr rfl | assumption)
      · refine pci h.f_l_region (takes_of rfl rfl rfl rfl) hr rfl (pv 1) ?_ (by decide) (by rfl) (by rfl)
        · refine pq_cons ?_ ?_ (by rfl)
          · refine pp_op op_addA (b_add rfl) ?_ ?_
            · exact pp_int
            · refine pci h.f_l_draw (takes_of rfl rfl rfl rfl) hr rfl (pv 1) ?_ (by decide) (by rfl) (by rfl)
              · refine pq_cons ?_ ?_ (by rfl)
                · exact pp_int
                · exact pq_nil
          · exact pq_nil
    · refine ss_cons ?_ ?_
      · refine st_asg ?_ (pg_tup rfl (pgs_cons (pg_name (i := 3) nd rfl (by first | exact Or.inl rfl | exact Or.inr rfl)) (pgs_cons (pg_name (i := 4) nd rfl (by first | exact Or.inl rfl | exact Or.inr rfl)) pgs_nil))) (tg_tup rfl (tgs_cons (tgs_cons tgs_nil)) rfl) (by rfl) (by rfl) (by rfl)
        · refine pp_tup ?_
          · refine pq_cons ?_ ?_ (by rfl)
            · refine pp_op op_addA (b_add rfl) ?_ ?_
              · exact pp_int
              · refine pci h.f_l_draw (takes_of rfl rfl rfl rfl) hr rfl (pv 1) ?_ (by decide) (by rfl) (by rfl)
                · refine pq_cons ?_ ?_ (by rfl)
                  · exact pp_int
                  · exact pq_nil
            · refine pq_cons ?_ ?_ (by rfl)
              · refine pp_op op_addA (b_add rfl) ?_ ?_
                · exact pp_int
                · refine pci h.f_l_draw (takes_of rfl rfl rfl rfl) hr rfl (pv 1) ?_ (by decide) (by rfl) (by rfl)
                  · refine pq_cons ?_ ?_ (by rfl)
                    · exact pp_int
                    · exact pq_nil
              · exact pq_nil
      · refine ss_cons ?_ ?_
        · refine st_newL (i := 5) nd rfl (.inl rfl) ?_ (by rfl) (by first | exact .inl rfl | exact .inr rfl | assumption)
          · exact pq_nil
        · refine ss_cons ?_ ?_
          · refine st_for (passes_of rfl) rfl ?_ (pg_name (i := 6) nd rfl (by first | exact Or.inl rfl | exact Or.inr rfl)) tg_one ?_ (by intro _; rfl)
            · refine qi_range1 rfl T.n_range ?_ (by rfl)
              · refine pq_cons ?_ ?_ (by rfl)
                · exact pp_var (pv 3)
                · exact pq_nil
            · refine ss_cons ?_ ?_
              · refine st_setComp (i := 7) (own := [("_law_j", 8)]) rfl nd rfl rfl (sw_true rfl rfl rfl (by decide +kernel)) ?_ (blkC_of (N' := ["_law_script", "_law_draws", "_law_region_here", "_law_n", "_law_m", "_law_rows", "_law_i", "_law_signs", "_law_j", "_law_deep", "_law_k", "_law_odd", "_law_thing", "_law_places"]) (sc' := defScope (top 35)) rfl rfl (by decide +kernel)) tg_one rfl (fun _ _ _ _ _ => (pg_name (i := 8) nd rfl (by first | exact Or.inl rfl | exact Or.inr rfl))) (fun _ _ _ _ _ => ?_) (fun _ _ _ _ _ => ?_) (by intro _; rfl)
                · refine qi_range1 rfl T.n_range ?_ (by rfl)
                  · refine pq_cons ?_ ?_ (by rfl)
                    · exact pp_var (pv 4)
                    · exact pq_nil
                · exact qts_nil
                · refine pp_if ?_ ?_ ?_
                  · refine pt_tru rfl ?_ (by intro _; rfl)
                    · refine pc h.f_l_has takes0 hr rfl ?_ (by rfl) (by decide) (by rfl) (by rfl)
                      · refine pq_cons ?_ ?_ (by rfl)
                        · exact pp_var (pv 2)
                        · refine pq_cons ?_ ?_ (by rfl)
                          · exact pp_var (pv 3)
                          · refine pq_cons ?_ ?_ (by rfl)
                            · exact pp_var (pv 4)
                            · refine pq_cons ?_ ?_ (by rfl)
                              · exact pp_var (pv 6)
                              · refine pq_cons ?_ ?_ (by rfl)
                                · exact pp_var (pv 8)
                                · exact pq_nil
                  · exact pp_str
                  · exact pp_str
              · refine ss_one ?_
                · refine st_app (pv 5) ?_ (by rfl) (by rfl) (by rfl) (by rfl) (by rfl) (by rfl)
                  · refine pp_join ?_ ?_ (by rfl) (by rfl) (by rfl)
                    · exact pp_str
                    · exact pp_var (pv 7)
          · refine ss_cons ?_ ?_
            · refine st_if ?_ ?_ ?_
              · refine PW.pt ?_
                · refine qw_or ?_ ?_
                  · refine pt_cmp' (op_neD hr.units) (c_ne rfl).bin ?_ ?_ (nomark _)
                    · refine pc h.f_drawn (takes_of rfl rfl rfl rfl) hr rfl ?_ (by rfl) (by decide) (by rfl) (by rfl)
                      · refine pq_cons ?_ ?_ (by rfl)
                        · exact pp_var (pv 2)
                        · refine pq_cons ?_ ?_ (by rfl)
                          · exact pp_var (pv 3)
                          · refine pq_cons ?_ ?_ (by rfl)
                            · exact pp_var (pv 4)
                            · exact pq_nil
                    · exact pp_rd (pv 5)
                  · refine qw_or1 ?_
                    · refine qt_not ?_
                      · refine pt_tru rfl ?_ (by intro _; rfl)
                        · refine pc h.f_is_region (takes_of rfl rfl rfl rfl) hr rfl ?_ (by rfl) (by decide) (by rfl) (by rfl)
                          · refine pq_cons ?_ ?_ (by rfl)
                            · exact pp_var (pv 2)
                            · exact pq_nil
              · refine ss_one ?_
                · refine st_ret ?_
                  · exact pp_bl
              · exact ss_nil
            · refine ss_cons ?_ ?_
              · refine st_asg ?_ (pg_tup rfl (pgs_cons (pg_name (i := 6) nd rfl (by first | exact Or.inl rfl | exact Or.inr rfl)) (pgs_cons (pg_name (i := 8) nd rfl (by first | exact Or.inl rfl | exact Or.inr rfl)) pgs_nil))) (tg_tup rfl (tgs_cons (tgs_cons tgs_nil)) rfl) (by rfl) (by rfl) (by rfl)
                · refine pp_tup ?_
                  · refine pq_cons ?_ ?_ (by rfl)
                    · refine pci h.f_l_draw (takes_of rfl rfl rfl rfl) hr rfl (pv 1) ?_ (by decide) (by rfl) (by rfl)
                      · refine pq_cons ?_ ?_ (by rfl)
                        · exact pp_var (pv 3)
                        · exact pq_nil
                    · refine pq_cons ?_ ?_ (by rfl)
                      · refine pci h.f_l_draw (takes_of rfl rfl rfl rfl) hr rfl (pv 1) ?_ (by decide) (by rfl) (by rfl)
                        · refine pq_cons ?_ ?_ (by rfl)
                          · exact pp_var (pv 4)
                          · exact pq_nil
                      · exact pq_nil
              · refine ss_cons ?_ ?_
                · refine st_if ?_ ?_ ?_
                  · refine pt_cmp' (op_neD hr.units) (c_ne rfl).bin ?_ ?_ (nomark _)
                    · refine pc h.f_has (takes_of rfl rfl rfl rfl) hr rfl ?_ (by rfl) (by decide) (by rfl) (by rfl)
                      · refine pq_cons ?_ ?_ (by rfl)
                        · exact pp_var (pv 2)
                        · refine pq_cons ?_ ?_ (by rfl)
                          · exact pp_var (pv 3)
                          · refine pq_cons ?_ ?_ (by rfl)
                            · exact pp_var (pv 4)
                            · refine pq_cons ?_ ?_ (by rfl)
                              · exact pp_var (pv 6)
                              · refine pq_cons ?_ ?_ (by rfl)
                                · exact pp_var (pv 8)
                                · exact pq_nil
                    · refine pc h.f_l_has (takes_of rfl rfl rfl rfl) hr rfl ?_ (by rfl) (by decide) (by rfl) (by rfl)
                      · refine pq_cons ?_ ?_ (by rfl)
                        · exact pp_var (pv 2)
                        · refine pq_cons ?_ ?_ (by rfl)
                          · exact pp_var (pv 3)
                          · refine pq_cons ?_ ?_ (by rfl)
                            · exact pp_var (pv 4)
                            · refine pq_cons ?_ ?_ (by rfl)
                              · exact pp_var (pv 6)
                              · refine pq_cons ?_ ?_ (by rfl)
                                · exact pp_var (pv 8)
                                · exact pq_nil
                  · refine ss_one ?_
                    · refine st_ret ?_
                      · exact pp_bl
                  · exact ss_nil
                · refine ss_cons ?_ ?_
                  · refine st_set (i := 9) nd rfl (.inl rfl) ?_ (by rfl) (by first | exact .inl rfl | exact .inr rfl | assumption)
                    · refine pp_tup ?_
                      · refine pq_cons ?_ ?_ (by rfl)
                        · exact pp_str
                        · exact pq_nil
                  · refine ss_cons ?_ ?_
                    · refine st_for (passes_of rfl) rfl ?_ (pg_name (i := 10) nd rfl (by first | exact Or.inl rfl | exact Or.inr rfl)) tg_one ?_ (by intro _; rfl)
                      · refine qi_range1 rfl T.n_range ?_ (by rfl)
                        · refine pq_cons ?_ ?_ (by rfl)
                          · exact pp_int
                          · exact pq_nil
                      · refine ss_one ?_
                        · refine st_set (i := 9) nd rfl (.inl rfl) ?_ (by rfl) (by first | exact .inl rfl | exact .inr rfl | assumption)
                          · refine pp_tup ?_
                            · refine pq_cons ?_ ?_ (by rfl)
                              · exact pp_str
                              · refine pq_cons ?_ ?_ (by rfl)
                                · exact pp_var (pv 9)
                                · exact pq_nil
                    · refine ss_cons ?_ ?_
                      · refine st_set (i := 11) nd rfl (.inl rfl) ?_ (by rfl) (by first | exact .inl rfl | exact .inr rfl | assumption)
                        · refine pp_lst ?_
                          · refine pq_cons ?_ ?_ (by rfl)
                            · exact pp_non
                            · refine pq_cons ?_ ?_ (by rfl)
                              · exact pp_str
                              · refine pq_cons ?_ ?_ (by rfl)
                                · refine pp_tup ?_
                                  · refine pq_cons ?_ ?_ (by rfl)
                                    · exact pp_str
                                    · refine pq_cons ?_ ?_ (by rfl)
                                      · exact pp_int
                                      · exact pq_nil
                                · refine pq_cons ?_ ?_ (by rfl)
                                  · refine pp_tup ?_
                                    · refine pq_cons ?_ ?_ (by rfl)
                                      · exact pp_str
                                      · refine pq_cons ?_ ?_ (by rfl)
                                        · exact pp_int
                                        · exact pq_nil
                                  · refine pq_cons ?_ ?_ (by rfl)
                                    · refine pp_tup ?_
                                      · refine pq_cons ?_ ?_ (by rfl)
                                        · exact pp_str
                                        · refine pq_cons ?_ ?_ (by rfl)
                                          · refine pp_un un_neg u_neg ?_
                                            · exact pp_int
                                          · refine pq_cons ?_ ?_ (by rfl)
                                            · exact pp_int
                                            · exact pq_nil
                                    · refine pq_cons ?_ ?_ (by rfl)
                                      · refine pp_tup ?_
                                        · refine pq_cons ?_ ?_ (by rfl)
                                          · exact pp_str
                                          · refine pq_cons ?_ ?_ (by rfl)
                                            · exact pp_int
                                            · refine pq_cons ?_ ?_ (by rfl)
                                              · exact pp_int
                                              · exact pq_nil
                                      · refine pq_cons ?_ ?_ (by rfl)
                                        · refine pp_tup ?_
                                          · refine pq_cons ?_ ?_ (by rfl)
                                            · exact pp_str
                                            · refine pq_cons ?_ ?_ (by rfl)
                                              · exact pp_int
                                              · refine pq_cons ?_ ?_ (by rfl)
                                                · exact pp_int
                                                · exact pq_nil
                                        · refine pq_cons ?_ ?_ (by rfl)
                                          · refine pp_tup ?_
                                            · refine pq_cons ?_ ?_ (by rfl)
                                              · exact pp_str
                                              · exact pq_nil
                                          · exact pq_nil
                      · refine ss_cons ?_ ?_
                        · refine st_set (i := 11) nd rfl (.inl rfl) ?_ (by rfl) (by first | exact .inl rfl | exact .inr rfl | assumption)
                          · refine pp_op op_addA (b_add rfl) ?_ ?_
                            · exact pp_var (pv 11)
                            · refine pp_lst ?_
                              · refine pq_cons ?_ ?_ (by rfl)
                                · exact pp_var (pv 9)
                                · refine pq_cons ?_ ?_ (by rfl)
                                  · refine pp_tup ?_
                                    · refine pq_cons ?_ ?_ (by rfl)
                                      · exact pp_str
                                      · refine pq_cons ?_ ?_ (by rfl)
                                        · refine pp_tup ?_
                                          · refine pq_cons ?_ ?_ (by rfl)
                                            · exact pp_str
                                            · exact pq_nil
                                        · exact pq_nil
                                  · refine pq_cons ?_ ?_ (by rfl)
                                    · refine pp_tup ?_
                                      · refine pq_cons ?_ ?_ (by rfl)
                                        · exact pp_str
                                        · refine pq_cons ?_ ?_ (by rfl)
                                          · refine pp_tup ?_
                                            · refine pq_cons ?_ ?_ (by rfl)
                                              · exact pp_str
                                              · exact pq_nil
                                          · refine pq_cons ?_ ?_ (by rfl)
                                            · refine pp_tup ?_
                                              · refine pq_cons ?_ ?_ (by rfl)
                                                · exact pp_str
                                                · exact pq_nil
                                            · exact pq_nil
                                    · refine pq_cons ?_ ?_ (by rfl)
                                      · refine pp_tup ?_
                                        · refine pq_cons ?_ ?_ (by rfl)
                                          · exact pp_str
                                          · refine pq_cons ?_ ?_ (by rfl)
                                            · exact pp_int
                                            · refine pq_cons ?_ ?_ (by rfl)
                                              · exact pp_int
                                              · refine pq_cons ?_ ?_ (by rfl)
                                                · refine pp_tup ?_
                                                  · refine pq_cons ?_ ?_ (by rfl)
                                                    · exact pp_str
                                                    · exact pq_nil
                                                · exact pq_nil
                                      · exact pq_nil
                        · refine ss_cons ?_ ?_
                          · refine st_set (i := 11) nd rfl (.inl rfl) ?_ (by rfl) (by first | exact .inl rfl | exact .inr rfl | assumption)
                            · refine pp_op op_addA (b_add rfl) ?_ ?_
                              · exact pp_var (pv 11)
                              · refine pp_lst ?_
                                · refine pq_cons ?_ ?_ (by rfl)
                                  · refine pp_tup ?_
                                    · refine pq_cons ?_ ?_ (by rfl)
                                      · exact pp_str
                                      · refine pq_cons ?_ ?_ (by rfl)
                                        · exact pp_int
                                        · refine pq_cons ?_ ?_ (by rfl)
                                          · refine pp_tup ?_
                                            · refine pq_cons ?_ ?_ (by rfl)
                                              · exact pp_str
                                              · exact pq_nil
                                          · exact pq_nil
                                  · refine pq_cons ?_ ?_ (by rfl)
                                    · refine pp_lst ?_
                                      · refine pq_cons ?_ ?_ (by rfl)
                                        · exact pp_str
                                        · exact pq_nil
                                    · refine pq_cons ?_ ?_ (by rfl)
                                      · refine pp_tup ?_
                                        · refine pq_cons ?_ ?_ (by rfl)
                                          · exact pp_str
                                          · refine pq_cons ?_ ?_ (by rfl)
                                            · exact pp_bl
                                            · exact pq_nil
                                      · refine pq_cons ?_ ?_ (by rfl)
                                        · refine pp_tup ?_
                                          · refine pq_cons ?_ ?_ (by rfl)
                                            · exact pp_str
                                            · refine pq_cons ?_ ?_ (by rfl)
                                              · exact pp_int
                                              · refine pq_cons ?_ ?_ (by rfl)
                                                · exact pp_int
                                                · exact pq_nil
                                        · refine pq_cons ?_ ?_ (by rfl)
                                          · refine pp_tup ?_
                                            · refine pq_cons ?_ ?_ (by rfl)
                                              · exact pp_str
                                              · refine pq_cons ?_ ?_ (by rfl)
                                                · refine pp_tup ?_
                                                  · refine pq_cons ?_ ?_ (by rfl)
                                                    · exact pp_str
                                                    · exact pq_nil
                                                · refine pq_cons ?_ ?_ (by rfl)
                                                  · exact pp_non
                                                  · exact pq_nil
                                          · refine pq_cons ?_ ?_ (by rfl)
                                            · refine pp_tup ?_
                                              · exact pq_nil
                                            · exact pq_nil
                          · refine ss_cons ?_ ?_
                            · refine st_set (i := 11) nd rfl (.inl rfl) ?_ (by rfl) (by first | exact .inl rfl | exact .inr rfl | assumption)
                              · refine pp_op op_addA (b_add rfl) ?_ ?_
                                · exact pp_var (pv 11)
                                · refine pp_lst ?_
                                  · refine pq_cons ?_ ?_ (by rfl)
                                    · refine pp_tup ?_
                                      · refine pq_cons ?_ ?_ (by rfl)
                                        · exact pp_str
                                        · exact pq_nil
                                    · refine pq_cons ?_ ?_ (by rfl)
                                      · refine pp_tup ?_
                                        · refine pq_cons ?_ ?_ (by rfl)
                                          · exact pp_str
                                          · refine pq_cons ?_ ?_ (by rfl)
                                            · exact pp_int
                                            · refine pq_cons ?_ ?_ (by rfl)
                                              · exact pp_bl
                                              · exact pq_nil
                                      · refine pq_cons ?_ ?_ (by rfl)
                                        · refine pp_tup ?_
                                          · refine pq_cons ?_ ?_ (by rfl)
                                            · refine pp_tup ?_
                                              · refine pq_cons ?_ ?_ (by rfl)
                                                · exact pp_str
                                                · exact pq_nil
                                            · exact pq_nil
                                        · exact pq_nil
                            · refine ss_cons ?_ ?_
                              · refine st_set (i := 12) nd rfl (.inl rfl) ?_ (by rfl) (by first | exact .inl rfl | exact .inr rfl | assumption)
                                · refine pp_ix rfl ?_ ?_ (by intro _ _; rfl)
                                  · exact pp_var (pv 11)
                                  · refine pci h.f_l_draw (takes_of rfl rfl rfl rfl) hr rfl (pv 1) ?_ (by decide) (by rfl) (by rfl)
                                    · refine pq_cons ?_ ?_ (by rfl)
                                      · refine pp_fun call_lenA (f_len rfl) T.n_len (by decide +kernel) rfl ?_ (by decide) (by decide) (by rfl) (by rfl)
                                        · refine pq_cons ?_ ?_ (by rfl)
                                          · exact pp_var (pv 11)
                                          · exact pq_nil
                                      · exact pq_nil
                              · refine ss_cons ?_ ?_
                                · refine st_if ?_ ?_ ?_
                                  · refine PW.pt ?_
                                    · refine qw_or ?_ ?_
                                      · refine pt_tru rfl ?_ (by intro _; rfl)
                                        · refine pc h.f_is_region (takes_of rfl rfl rfl rfl) hr rfl ?_ (by rfl) (by decide) (by rfl) (by rfl)
                                          · refine pq_cons ?_ ?_ (by rfl)
                                            · exact pp_var (pv 12)
                                            · exact pq_nil
                                      · refine qw_or1 ?_
                                        · refine pt_cmp' (op_neD hr.units) (c_ne rfl).bin ?_ ?_ (nomark _)
                                          · refine pc h.f_l_refused (takes_of rfl rfl rfl rfl) hr rfl ?_ (by rfl) (by decide) (by rfl) (by rfl)
                                            · refine pq_cons ?_ ?_ (by rfl)
                                              · exact pp_var (pv 12)
                                              · refine pq_cons ?_ ?_ (by rfl)
                                                · exact pp_int
                                                · refine pq_cons ?_ ?_ (by rfl)
                                                  · exact pp_int
                                                  · refine pq_cons ?_ ?_ (by rfl)
                                                    · exact pp_int
                                                    · refine pq_cons ?_ ?_ (by rfl)
                                                      · exact pp_int
                                                      · exact pq_nil
                                          · exact pp_str
                                  · refine ss_one ?_
                                    · refine st_ret ?_
                                      · exact pp_bl
                                  · exact ss_nil
                                · refine ss_cons ?_ ?_
                                  · refine st_newL (i := 13) nd rfl (.inl rfl) ?_ (by rfl) (by first | exact .inl rfl | exact .inr rfl | assumption)
                                    · refine pq_cons ?_ ?_ (by rfl)
                                      · refine pp_tup ?_
                                        · refine pq_cons ?_ ?_ (by rfl)
                                          · exact pp_int
                                          · refine pq_cons ?_ ?_ (by rfl)
                                            · exact pp_int
                                            · refine pq_cons ?_ ?_ (by rfl)
                                              · exact pp_int
                                              · refine pq_cons ?_ ?_ (by rfl)
                                                · exact pp_int
                                                · exact pq_nil
                                      · refine pq_cons ?_ ?_ (by rfl)
                                        · refine pp_tup ?_
                                          · refine pq_cons ?_ ?_ (by rfl)
                                            · exact pp_int
                                            · refine pq_cons ?_ ?_ (by rfl)
                                              · exact pp_int
                                              · refine pq_cons ?_ ?_ (by rfl)
                                                · exact pp_int
                                                · refine pq_cons ?_ ?_ (by rfl)
                                                  · exact pp_int
                                                  · exact pq_nil
                                        · refine pq_cons ?_ ?_ (by rfl)
                                          · refine pp_tup ?_
                                            · refine pq_cons ?_ ?_ (by rfl)
                                              · exact pp_int
                                              · refine pq_cons ?_ ?_ (by rfl)
                                                · exact pp_int
                                                · refine pq_cons ?_ ?_ (by rfl)
                                                  · exact pp_int
                                                  · refine pq_cons ?_ ?_ (by rfl)
                                                    · exact pp_int
                                                    · exact pq_nil
                                          · refine pq_cons ?_ ?_ (by rfl)
                                            · refine pp_tup ?_
                                              · refine pq_cons ?_ ?_ (by rfl)
                                                · exact pp_int
                                                · refine pq_cons ?_ ?_ (by rfl)
                                                  · exact pp_int
                                                  · refine pq_cons ?_ ?_ (by rfl)
                                                    · exact pp_int
                                                    · refine pq_cons ?_ ?_ (by rfl)
                                                      · exact pp_int
                                                      · exact pq_nil
                                            · refine pq_cons ?_ ?_ (by rfl)
                                              · refine pp_tup ?_
                                                · refine pq_cons ?_ ?_ (by rfl)
                                                  · exact pp_int
                                                  · refine pq_cons ?_ ?_ (by rfl)
                                                    · exact pp_int
                                                    · refine pq_cons ?_ ?_ (by rfl)
                                                      · refine pp_un un_neg u_neg ?_
                                                        · exact pp_int
                                                      · refine pq_cons ?_ ?_ (by rfl)
                                                        · exact pp_int
                                                        · exact pq_nil
                                              · refine pq_cons ?_ ?_ (by rfl)
                                                · refine pp_tup ?_
                                                  · refine pq_cons ?_ ?_ (by rfl)
                                                    · exact pp_int
                                                    · refine pq_cons ?_ ?_ (by rfl)
                                                      · exact pp_int
                                                      · refine pq_cons ?_ ?_ (by rfl)
                                                        · exact pp_int
                                                        · refine pq_cons ?_ ?_ (by rfl)
                                                          · exact pp_non
                                                          · exact pq_nil
                                                · exact pq_nil
                                  · refine ss_cons ?_ ?_
                                    · refine st_app (pv 13) ?_ (by rfl) (by rfl) (by rfl) (by rfl) (by rfl) (by rfl)
                                      · refine pp_tup ?_
                                        · refine pq_cons ?_ ?_ (by rfl)
                                          · exact pp_bl
                                          · refine pq_cons ?_ ?_ (by rfl)
                                            · exact pp_int
                                            · refine pq_cons ?_ ?_ (by rfl)
                                              · exact pp_int
                                              · refine pq_cons ?_ ?_ (by rfl)
                                                · exact pp_int
                                                · exact pq_nil
                                    · refine ss_cons ?_ ?_
                                      · refine st_asg ?_ (pg_tup rfl (pgs_cons (pg_name (i := 3) nd rfl (by first | exact Or.inl rfl | exact Or.inr rfl)) (pgs_cons (pg_name (i := 4) nd rfl (by first | exact Or.inl rfl | exact Or.inr rfl)) (pgs_cons (pg_name (i := 6) nd rfl (by first | exact Or.inl rfl | exact Or.inr rfl)) (pgs_cons (pg_name (i := 8) nd rfl (by first | exact Or.inl rfl | exact Or.inr rfl)) pgs_nil))))) (tg_tup rfl (tgs_cons (tgs_cons (tgs_cons (tgs_cons tgs_nil)))) rfl) (by rfl) (by rfl) (by rfl)
                                        · refine pp_ix rfl ?_ ?_ (by intro _ _; rfl)
                                          · exact pp_rd (pv 13)
                                          · refine pci h.f_l_draw (takes_of rfl rfl rfl rfl) hr rfl (pv 1) ?_ (by decide) (by rfl) (by rfl)
                                            · refine pq_cons ?_ ?_ (by rfl)
                                              · refine pp_fun call_lenA (f_len rfl) T.n_len (by decide +kernel) rfl ?_ (by decide) (by decide) (by rfl) (by rfl)
                                                · refine pq_cons ?_ ?_ (by rfl)
                                                  · exact pp_rd (pv 13)
                                                  · exact pq_nil
                                              · exact pq_nil
                                      · refine ss_one ?_
                                        · refine st_ret ?_
                                          · refine pp_cmp (op_eqD hr.units) (c_eq rfl).bin ?_ ?_ (nomark _)
                                            · refine pc h.f_l_refused (takes_of rfl rfl rfl rfl) hr rfl ?_ (by rfl) (by decide) (by rfl) (by rfl)
                                              · refine pq_cons ?_ ?_ (by rfl)
                                                · exact pp_var (pv 2)
                                                · refine pq_cons ?_ ?_ (by rfl)
                                                  · exact pp_var (pv 3)
                                                  · refine pq_cons ?_ ?_ (by rfl)
                                                    · exact pp_var (pv 4)
                                                    · refine pq_cons ?_ ?_ (by rfl)
                                                      · exact pp_var (pv 6)
                                                      · refine pq_cons ?_ ?_ (by rfl)
                                                        · exact pp_var (pv 8)
                                                        · exact pq_nil
                                            · exact pp_str
include T X0 G0 in
theorem ok_law_k01 {k : Nat} (h : Lv P w K mg base k) : FnH P w K mg base (k + 1) "law" (spP (fx K w) 1 (env (k + 1)).p_law_k01) := by
  obtain ⟨fd, FD⟩ := T.sy.d.def_ 23 (d := ⟨("law", none), "law", "law", defArgs (top 35), defBody (top 35), defScope (top 35), [], []⟩) rfl
  exact ⟨_, fd, ["_law_script"], He.glo_ok X0 G0 (T.sy.d.fact 23 (f := .glo "law") rfl), FD.kp, FD.bindsN (fun _ _ _ _ _ _ us hl => match us, hl with | [_], _ => rfl), fo_law_k01 T X0 G0 h FD⟩
end
end Pl

set_option maxHeartbeats 0
/-! printed by gen.py: the head of law k01. -/
namespace Pl
open PySem PySem.Spec PyProof.Rows L2 RZ
section
variable {P : Program} {w : World} {K : PySem.W.Frag} {mg : Str → Option Value} {base : Heap} {h : Heap}
variable (T : Txt K w mg) (X0 : K.In h) (G0 : h.Ns mainGlobals mg)
include T X0 G0 in
theorem zero_is_whole : FnH P w K mg base 0 "is_whole" (spP (fx K w) 3 (env 0).p_is_whole) := by
  obtain ⟨fd, FD⟩ := T.sy.d.def_ 0 (d := ⟨("is_whole", none), "is_whole", "is_whole", defArgs (top 8), defBody (top 8), defScope (top 8), [], []⟩) rfl
  refine ⟨_, fd, ["thing", "least", "most"], He.glo_ok X0 G0 (T.sy.d.fact 0 (f := .glo "is_whole") rfl), FD.kp, FD.bindsN (fun _ _ _ _ _ _ us hl => match us, hl with | [_, _, _], _ => rfl), ⟨fun vs H Q E q => ?_, fun _ _ _ H _ _ vs Q E _ _ _ _ q => ?_⟩⟩
  · obtain ⟨_, _, _, _, _, z⟩ := q; exact False.elim z
  · obtain ⟨_, _, _, _, _, z⟩ := q; exact False.elim z
include T X0 G0 in
theorem zero_are_numbers : FnH P w K mg base 0 "are_numbers" (spP (fx K w) 2 (env 0).p_are_numbers) := by
  obtain ⟨fd, FD⟩ := T.sy.d.def_ 1 (d := ⟨("are_numbers", none), "are_numbers", "are_numbers", defArgs (top 9), defBody (top 9), defScope (top 9), [], []⟩) rfl
  refine ⟨_, fd, ["signs", "things"], He.glo_ok X0 G0 (T.sy.d.fact 1 (f := .glo "are_numbers") rfl), FD.kp, FD.bindsN (fun _ _ _ _ _ _ us hl => match us, hl with | [_, _], _ => rfl), ⟨fun vs H Q E q => ?_, fun _ _ _ H _ _ vs Q E _ _ _ _ q => ?_⟩⟩
  · obtain ⟨_, _, _, _, _, z⟩ := q; exact False.elim z
  · obtain ⟨_, _, _, _, _, z⟩ := q; exact False.elim z
include T X0 G0 in
theorem zero_is_nested : FnH P w K mg base 0 "is_nested" (spP (fx K w) 2 (env 0).p_is_nested) := by
  obtain ⟨fd, FD⟩ := T.sy.d.def_ 2 (d := ⟨("is_nested", none), "is_nested", "is_nested", defArgs (top 10), defBody (top 10), defScope (top 10), [], []⟩) rfl
  refine ⟨_, fd, ["thing", "deep"], He.glo_ok X0 G0 (T.sy.d.fact 2 (f := .glo "is_nested") rfl), FD.kp, FD.bindsN (fun _ _ _ _ _ _ us hl => match us, hl with | [_, _], _ => rfl), ⟨fun vs H Q E q => ?_, fun _ _ _ H _ _ vs Q E _ _ _ _ q => ?_⟩⟩
  · obtain ⟨_, _, _, _, _, z⟩ := q; exact False.elim z
  · obtain ⟨_, _, _, _, _, z⟩ := q; exact False.elim z
include T X0 G0 in
theorem zero_is_region : FnH P w K mg base 0 "is_region" (spP (fx K w) 1 (env 0).p_is_region) := by
  obtain ⟨fd, FD⟩ := T.sy.d.def_ 3 (d := ⟨("is_region", none), "is_region", "is_region", defArgs (top 11), defBody (top 11), defScope (top 11), [], []⟩) rfl
  refine ⟨_, fd, ["thing"], He.glo_ok X0 G0 (T.sy.d.fact 3 (f := .glo "is_region") rfl), FD.kp, FD.bindsN (fun _ _ _ _ _ _ us hl => match us, hl with | [_], _ => rfl), ⟨fun vs H Q E q => ?_, fun _ _ _ H _ _ vs Q E _ _ _ _ q => ?_⟩⟩
  · obtain ⟨_, _, _, _, _, z⟩ := q; exact False.elim z
  · obtain ⟨_, _, _, _, _, z⟩ := q; exact False.elim z
include T X0 G0 in
theorem zero_check_region : FnH P w K mg base 0 "check_region" (spP (fx K w) 1 (env 0).p_check_region) := by
  obtain ⟨fd, FD⟩ := T.sy.d.def_ 4 (d := ⟨("check_region", none), "check_region", "check_region", defArgs (top 12), defBody (top 12), defScope (top 12), [], []⟩) rfl
  refine ⟨_, fd, ["thing"], He.glo_ok X0 G0 (T.sy.d.fact 4 (f := .glo "check_region") rfl), FD.kp, FD.bindsN (fun _ _ _ _ _ _ us hl => match us, hl with | [_], _ => rfl), ⟨fun vs H Q E q => ?_, fun _ _ _ H _ _ vs Q E _ _ _ _ q => ?_⟩⟩
  · obtain ⟨_, _, _, _, _, z⟩ := q; exact False.elim z
  · obtain ⟨_, _, _, _, _, z⟩ := q; exact False.elim z
include T X0 G0 in
theorem zero_is_number : FnH P w K mg base 0 "is_number" (spP (fx K w) 3 (env 0).p_is_number) := by
  obtain ⟨fd, FD⟩ := T.sy.d.def_ 5 (d := ⟨("is_number", none), "is_number", "is_number", defArgs (top 16), defBody (top 16), defScope (top 16), [], []⟩) rfl
  refine ⟨_, fd, ["thing", "least", "most"], He.glo_ok X0 G0 (T.sy.d.fact 5 (f := .glo "is_number") rfl), FD.kp, FD.bindsN (fun _ _ _ _ _ _ us hl => match us, hl with | [_, _, _], _ => rfl), ⟨fun vs H Q E q => ?_, fun _ _ _ H _ _ vs Q E _ _ _ _ q => ?_⟩⟩
  · obtain ⟨_, _, _, _, _, z⟩ := q; exact False.elim z
  · obtain ⟨_, _, _, _, _, z⟩ := q; exact False.elim z
include T X0 G0 in
theorem zero_check_sheet : FnH P w K mg base 0 "check_sheet" (spP (fx K w) 2 (env 0).p_check_sheet) := by
  obtain ⟨fd, FD⟩ := T.sy.d.def_ 6 (d := ⟨("check_sheet", none), "check_sheet", "check_sheet", defArgs (top 17), defBody (top 17), defScope (top 17), [], []⟩) rfl
  refine ⟨_, fd, ["n", "m"], He.glo_ok X0 G0 (T.sy.d.fact 6 (f := .glo "check_sheet") rfl), FD.kp, FD.bindsN (fun _ _ _ _ _ _ us hl => match us, hl with | [_, _], _ => rfl), ⟨fun vs H Q E q => ?_, fun _ _ _ H _ _ vs Q E _ _ _ _ q => ?_⟩⟩
  · obtain ⟨_, _, _, _, _, z⟩ := q; exact False.elim z
  · obtain ⟨_, _, _, _, _, z⟩ := q; exact False.elim z
include T X0 G0 in
theorem zero_check_small : FnH P w K mg base 0 "check_small" (spP (fx K w) 2 (env 0).p_check_small) := by
  obtain ⟨fd, FD⟩ := T.sy.d.def_ 7 (d := ⟨("check_small", none), "check_small", "check_small", defArgs (top 18), defBody (top 18), defScope (top 18), [], []⟩) rfl
  refine ⟨_, fd, ["n", "m"], He.glo_ok X0 G0 (T.sy.d.fact 7 (f := .glo "check_small") rfl), FD.kp, FD.bindsN (fun _ _ _ _ _ _ us hl => match us, hl with | [_, _], _ => rfl), ⟨fun vs H Q E q => ?_, fun _ _ _ H _ _ vs Q E _ _ _ _ q => ?_⟩⟩
  · obtain ⟨_, _, _, _, _, z⟩ := q; exact False.elim z
  · obtain ⟨_, _, _, _, _, z⟩ := q; exact False.elim z
include T X0 G0 in
theorem zero_check_cell : FnH P w K mg base 0 "check_cell" (spP (fx K w) 4 (env 0).p_check_cell) := by
  obtain ⟨fd, FD⟩ := T.sy.d.def_ 8 (d := ⟨("check_cell", none), "check_cell", "check_cell", defArgs (top 19), defBody (top 19), defScope (top 19), [], []⟩) rfl
  refine ⟨_, fd, ["n", "m", "i", "j"], He.glo_ok X0 G0 (T.sy.d.fact 8 (f := .glo "check_cell") rfl), FD.kp, FD.bindsN (fun _ _ _ _ _ _ us hl => match us, hl with | [_, _, _, _], _ => rfl), ⟨fun vs H Q E q => ?_, fun _ _ _ H _ _ vs Q E _ _ _ _ q => ?_⟩⟩
  · obtain ⟨_, _, _, _, _, z⟩ := q; exact False.elim z
  · obtain ⟨_, _, _, _, _, z⟩ := q; exact False.elim z
include T X0 G0 in
theorem zero_is_of_row : FnH P w K mg base 0 "is_of_row" (spP (fx K w) 3 (env 0).p_is_of_row) := by
  obtain ⟨fd, FD⟩ := T.sy.d.def_ 9 (d := ⟨("is_of_row", none), "is_of_row", "is_of_row", defArgs (top 20), defBody (top 20), defScope (top 20), [], []⟩) rfl
  refine ⟨_, fd, ["place", "a", "k"], He.glo_ok X0 G0 (T.sy.d.fact 9 (f := .glo "is_of_row") rfl), FD.kp, FD.bindsN (fun _ _ _ _ _ _ us hl => match us, hl with | [_, _, _], _ => rfl), ⟨fun vs H Q E q => ?_, fun _ _ _ H _ _ vs Q E _ _ _ _ q => ?_⟩⟩
  · obtain ⟨_, _, _, _, _, z⟩ := q; exact False.elim z
  · obtain ⟨_, _, _, _, _, z⟩ := q; exact False.elim z
include T X0 G0 in
theorem zero_plain_has : FnH P w K mg base 0 "plain_has" (spP (fx K w) 5 (env 0).p_plain_has) := by
  obtain ⟨fd, FD⟩ := T.sy.d.def_ 10 (d := ⟨("plain_has", none), "plain_has", "plain_has", defArgs (top 21), defBody (top 21), defScope (top 21), [], []⟩) rfl
  refine ⟨_, fd, ["region", "n", "m", "i", "j"], He.glo_ok X0 G0 (T.sy.d.fact 10 (f := .glo "plain_has") rfl), FD.kp, FD.bindsN (fun _ _ _ _ _ _ us hl => match us, hl with | [_, _, _, _, _], _ => rfl), ⟨fun vs H Q E q => ?_, fun _ _ _ H _ _ vs Q E _ _ _ _ q => ?_⟩⟩
  · obtain ⟨_, _, _, _, _, z⟩ := q; exact False.elim z
  · obtain ⟨_, _, _, _, _, z⟩ := q; exact False.elim z
include T X0 G0 in
theorem zero_moved_has : FnH P w K mg base 0 "moved_has" (spP (fx K w) 5 (env 0).p_moved_has) := by
  obtain ⟨fd, FD⟩ := T.sy.d.def_ 11 (d := ⟨("moved_has", none), "moved_has", "moved_has", defArgs (top 22), defBody (top 22), defScope (top 22), [], []⟩) rfl
  refine ⟨_, fd, ["region", "n", "m", "i", "j"], He.glo_ok X0 G0 (T.sy.d.fact 11 (f := .glo "moved_has") rfl), FD.kp, FD.bindsN (fun _ _ _ _ _ _ us hl => match us, hl with | [_, _, _, _, _], _ => rfl), ⟨fun vs H Q E q => ?_, fun _ _ _ H _ _ vs Q E _ _ _ _ q => ?_⟩⟩
  · obtain ⟨_, _, _, _, _, z⟩ := q; exact False.elim z
  · obtain ⟨_, _, _, _, _, z⟩ := q; exact False.elim z
include T X0 G0 in
theorem zero_cell_has : FnH P w K mg base 0 "cell_has" (spP (fx K w) 5 (env 0).p_cell_has) := by
  obtain ⟨fd, FD⟩ := T.sy.d.def_ 12 (d := ⟨("cell_has", none), "cell_has", "cell_has", defArgs (top 23), defBody (top 23), defScope (top 23), [], []⟩) rfl
  refine ⟨_, fd, ["region", "n", "m", "i", "j"], He.glo_ok X0 G0 (T.sy.d.fact 12 (f := .glo "cell_has") rfl), FD.kp, FD.bindsN (fun _ _ _ _ _ _ us hl => match us, hl with | [_, _, _, _, _], _ => rfl), ⟨fun vs H Q E q => ?_, fun _ _ _ H _ _ vs Q E _ _ _ _ q => ?_⟩⟩
  · obtain ⟨_, _, _, _, _, z⟩ := q; exact False.elim z
  · obtain ⟨_, _, _, _, _, z⟩ := q; exact False.elim z
include T X0 G0 in
theorem zero_has : FnH P w K mg base 0 "has" (spP (fx K w) 5 (env 0).p_has) := by
  obtain ⟨fd, FD⟩ := T.sy.d.def_ 13 (d := ⟨("has", none), "has", "has", defArgs (top 24), defBody (top 24), defScope (top 24), [], []⟩) rfl
  refine ⟨_, fd, ["region", "n", "m", "i", "j"], He.glo_ok X0 G0 (T.sy.d.fact 13 (f := .glo "has") rfl), FD.kp, FD.bindsN (fun _ _ _ _ _ _ us hl => match us, hl with | [_, _, _, _, _], _ => rfl), ⟨fun vs H Q E q => ?_, fun _ _ _ H _ _ vs Q E _ _ _ _ q => ?_⟩⟩
  · obtain ⟨_, _, _, _, _, z⟩ := q; exact False.elim z
  · obtain ⟨_, _, _, _, _, z⟩ := q; exact False.elim z
include T X0 G0 in
theorem zero_drawn : FnH P w K mg base 0 "drawn" (spP (fx K w) 3 (env 0).p_drawn) := by
  obtain ⟨fd, FD⟩ := T.sy.d.def_ 14 (d := ⟨("drawn", none), "drawn", "drawn", defArgs (top 25), defBody (top 25), defScope (top 25), [], []⟩) rfl
  refine ⟨_, fd, ["region", "n", "m"], He.glo_ok X0 G0 (T.sy.d.fact 14 (f := .glo "drawn") rfl), FD.kp, FD.bindsN (fun _ _ _ _ _ _ us hl => match us, hl with | [_, _, _], _ => rfl), ⟨fun vs H Q E q => ?_, fun _ _ _ H _ _ vs Q E _ _ _ _ q => ?_⟩⟩
  · obtain ⟨_, _, _, _, _, z⟩ := q; exact False.elim z
  · obtain ⟨_, _, _, _, _, z⟩ := q; exact False.elim z
include T X0 G0 in
theorem zero_l_begin : FnH P w K mg base 0 "_law_begin" (spO (fx K w) 1 (env 0).o_l_begin) := by
  obtain ⟨fd, FD⟩ := T.sy.d.def_ 15 (d := ⟨("_law_begin", none), "_law_begin", "_law_begin", defArgs (top 27), defBody (top 27), defScope (top 27), [], []⟩) rfl
  refine ⟨_, fd, ["_law_script"], He.glo_ok X0 G0 (T.sy.d.fact 15 (f := .glo "_law_begin") rfl), FD.kp, FD.bindsN (fun _ _ _ _ _ _ us hl => match us, hl with | [_], _ => rfl), ⟨fun vs H Q E q => ?_, fun _ _ _ H _ _ vs Q E _ _ _ _ q => ?_⟩⟩
  · obtain ⟨_, _, _, _, _, z⟩ := q; exact False.elim z
  · obtain ⟨_, _, _, _, _, z⟩ := q; exact False.elim z
include T X0 G0 in
theorem zero_l_draw : FnH P w K mg base 0 "_law_draw" (spI (fx K w) 2 (env 0).i_l_draw) := by
  obtain ⟨fd, FD⟩ := T.sy.d.def_ 16 (d := ⟨("_law_draw", none), "_law_draw", "_law_draw", defArgs (top 28), defBody (top 28), defScope (top 28), [], []⟩) rfl
  refine ⟨_, fd, ["_law_draws", "_law_size"], He.glo_ok X0 G0 (T.sy.d.fact 16 (f := .glo "_law_draw") rfl), FD.kp, FD.bindsN (fun _ _ _ _ _ _ us hl => match us, hl with | [_, _], _ => rfl), ⟨fun vs H Q E q => ?_, fun _ _ _ H _ _ vs Q E _ _ _ _ q => ?_⟩⟩
  · obtain ⟨_, _, _, _, _, _, _, _, _, _, _, z⟩ := q; exact False.elim z
  · obtain ⟨_, _, _, _, _, _, _, _, _, _, _, z⟩ := q; exact False.elim z
include T X0 G0 in
theorem zero_l_plain : FnH P w K mg base 0 "_law_plain" (spI (fx K w) 1 (env 0).i_l_plain) := by
  obtain ⟨fd, FD⟩ := T.sy.d.def_ 17 (d := ⟨("_law_plain", none), "_law_plain", "_law_plain", defArgs (top 29), defBody (top 29), defScope (top 29), [], []⟩) rfl
  refine ⟨_, fd, ["_law_draws"], He.glo_ok X0 G0 (T.sy.d.fact 17 (f := .glo "_law_plain") rfl), FD.kp, FD.bindsN (fun _ _ _ _ _ _ us hl => match us, hl with | [_], _ => rfl), ⟨fun vs H Q E q => ?_, fun _ _ _ H _ _ vs Q E _ _ _ _ q => ?_⟩⟩
  · obtain ⟨_, _, _, _, _, _, _, _, _, _, _, z⟩ := q; exact False.elim z
  · obtain ⟨_, _, _, _, _, _, _, _, _, _, _, z⟩ := q; exact False.elim z
include T X0 G0 in
theorem zero_l_region : FnH P w K mg base 0 "_law_region" (spI (fx K w) 2 (env 0).i_l_region) := by
  obtain ⟨fd, FD⟩ := T.sy.d.def_ 18 (d := ⟨("_law_region", none), "_law_region", "_law_region", defArgs (top 30), defBody (top 30), defScope (top 30), [], []⟩) rfl
  refine ⟨_, fd, ["_law_draws", "_law_deep"], He.glo_ok X0 G0 (T.sy.d.fact 18 (f := .glo "_law_region") rfl), FD.kp, FD.bindsN (fun _ _ _ _ _ _ us hl => match us, hl with | [_, _], _ => rfl), ⟨fun vs H Q E q => ?_, fun _ _ _ H _ _ vs Q E _ _ _ _ q => ?_⟩⟩
  · obtain ⟨_, _, _, _, _, _, _, _, _, _, _, z⟩ := q; exact False.elim z
  · obtain ⟨_, _, _, _, _, _, _, _, _, _, _, z⟩ := q; exact False.elim z
include T X0 G0 in
theorem zero_l_row : FnH P w K mg base 0 "_law_row" (spP (fx K w) 3 (env 0).p_l_row) := by
  obtain ⟨fd, FD⟩ := T.sy.d.def_ 19 (d := ⟨("_law_row", none), "_law_row", "_law_row", defArgs (top 31), defBody (top 31), defScope (top 31), [], []⟩) rfl
  refine ⟨_, fd, ["_law_place", "_law_a", "_law_k"], He.glo_ok X0 G0 (T.sy.d.fact 19 (f := .glo "_law_row") rfl), FD.kp, FD.bindsN (fun _ _ _ _ _ _ us hl => match us, hl with | [_, _, _], _ => rfl), ⟨fun vs H Q E q => ?_, fun _ _ _ H _ _ vs Q E _ _ _ _ q => ?_⟩⟩
  · obtain ⟨_, _, _, _, _, z⟩ := q; exact False.elim z
  · obtain ⟨_, _, _, _, _, z⟩ := q; exact False.elim z
include T X0 G0 in
theorem zero_l_has : FnH P w K mg base 0 "_law_has" (spP (fx K w) 5 (env 0).p_l_has) := by
  obtain ⟨fd, FD⟩ := T.sy.d.def_ 20 (d := ⟨("_law_has", none), "_law_has", "_law_has", defArgs (top 32), defBody (top 32), defScope (top 32), [], []⟩) rfl
  refine ⟨_, fd, ["_law_region_here", "_law_n", "_law_m", "_law_i", "_law_j"], He.glo_ok X0 G0 (T.sy.d.fact 20 (f := .glo "_law_has") rfl), FD.kp, FD.bindsN (fun _ _ _ _ _ _ us hl => match us, hl with | [_, _, _, _, _], _ => rfl), ⟨fun vs H Q E q => ?_, fun _ _ _ H _ _ vs Q E _ _ _ _ q => ?_⟩⟩
  · obtain ⟨_, _, _, _, _, z⟩ := q; exact False.elim z
  · obtain ⟨_, _, _, _, _, z⟩ := q; exact False.elim z
include T X0 G0 in
theorem zero_l_cells : FnH P w K mg base 0 "_law_cells" (spP (fx K w) 3 (env 0).p_l_cells) := by
  obtain ⟨fd, FD⟩ := T.sy.d.def_ 21 (d := ⟨("_law_cells", none), "_law_cells", "_law_cells", defArgs (top 33), defBody (top 33), defScope (top 33), [], []⟩) rfl
  refine ⟨_, fd, ["_law_region_here", "_law_n", "_law_m"], He.glo_ok X0 G0 (T.sy.d.fact 21 (f := .glo "_law_cells") rfl), FD.kp, FD.bindsN (fun _ _ _ _ _ _ us hl => match us, hl with | [_, _, _], _ => rfl), ⟨fun vs H Q E q => ?_, fun _ _ _ H _ _ vs Q E _ _ _ _ q => ?_⟩⟩
  · obtain ⟨_, _, _, _, _, z⟩ := q; exact False.elim z
  · obtain ⟨_, _, _, _, _, z⟩ := q; exact False.elim z
include T X0 G0 in
theorem zero_l_refused : FnH P w K mg base 0 "_law_refused" (spP (fx K w) 5 (env 0).p_l_refused) := by
  obtain ⟨fd, FD⟩ := T.sy.d.def_ 22 (d := ⟨("_law_refused", none), "_law_refused", "_law_refused", defArgs (top 34), defBody (top 34), defScope (top 34), [], []⟩) rfl
  refine ⟨_, fd, ["_law_region_here", "_law_n", "_law_m", "_law_i", "_law_j"], He.glo_ok X0 G0 (T.sy.d.fact 22 (f := .glo "_law_refused") rfl), FD.kp, FD.bindsN (fun _ _ _ _ _ _ us hl => match us, hl with | [_, _, _, _, _], _ => rfl), ⟨fun vs H Q E q => ?_, fun _ _ _ H _ _ vs Q E _ _ _ _ q => ?_⟩⟩
  · obtain ⟨_, _, _, _, _, z⟩ := q; exact False.elim z
  · obtain ⟨_, _, _, _, _, z⟩ := q; exact False.elim z
include T X0 G0 in
theorem zero_law_k01 : FnH P w K mg base 0 "law" (spP (fx K w) 1 (env 0).p_law_k01) := by
  obtain ⟨fd, FD⟩ := T.sy.d.def_ 23 (d := ⟨("law", none), "law", "law", defArgs (top 35), defBody (top 35), defScope (top 35), [], []⟩) rfl
  refine ⟨_, fd, ["_law_script"], He.glo_ok X0 G0 (T.sy.d.fact 23 (f := .glo "law") rfl), FD.kp, FD.bindsN (fun _ _ _ _ _ _ us hl => match us, hl with | [_], _ => rfl), ⟨fun vs H Q E q => ?_, fun _ _ _ H _ _ vs Q E _ _ _ _ q => ?_⟩⟩
  · obtain ⟨_, _, _, _, _, z⟩ := q; exact False.elim z
  · obtain ⟨_, _, _, _, _, z⟩ := q; exact False.elim z
include T X0 G0 in
theorem lv : ∀ k, Lv P w K mg base k
  | 0 => ⟨zero_is_whole T X0 G0, zero_are_numbers T X0 G0, zero_is_nested T X0 G0, zero_is_region T X0 G0, zero_check_region T X0 G0, zero_is_number T X0 G0, zero_check_sheet T X0 G0, zero_check_small T X0 G0, zero_check_cell T X0 G0, zero_is_of_row T X0 G0, zero_plain_has T X0 G0, zero_moved_has T X0 G0, zero_cell_has T X0 G0, zero_has T X0 G0, zero_drawn T X0 G0, zero_l_begin T X0 G0, zero_l_draw T X0 G0, zero_l_plain T X0 G0, zero_l_region T X0 G0, zero_l_row T X0 G0, zero_l_has T X0 G0, zero_l_cells T X0 G0, zero_l_refused T X0 G0, zero_law_k01 T X0 G0⟩
  | k + 1 => ⟨ok_is_whole T X0 G0 (lv k), ok_are_numbers T X0 G0 (lv k), ok_is_nested T X0 G0 (lv k), ok_is_region T X0 G0 (lv k), ok_check_region T X0 G0 (lv k), ok_is_number T X0 G0 (lv k), ok_check_sheet T X0 G0 (lv k), ok_check_small T X0 G0 (lv k), ok_check_cell T X0 G0 (lv k), ok_is_of_row T X0 G0 (lv k), ok_plain_has T X0 G0 (lv k), ok_moved_has T X0 G0 (lv k), ok_cell_has T X0 G0 (lv k), ok_has T X0 G0 (lv k), ok_drawn T X0 G0 (lv k), ok_l_begin T X0 G0 (lv k), ok_l_draw T X0 G0 (lv k), ok_l_plain T X0 G0 (lv k), ok_l_region T X0 G0 (lv k), ok_l_row T X0 G0 (lv k), ok_l_has T X0 G0 (lv k), ok_l_cells T X0 G0 (lv k), ok_l_refused T X0 G0 (lv k), ok_law_k01 T X0 G0 (lv k)⟩
end
abbrev R : PySem.W.OpenRow := PySem.W.OpenLaw.row PySem.Challenge.rw_anysheet_k01_regions_on_sheets
abbrev hk : PySem.W.Hook := He.hookX 6 fcs dfs tbs [] exs
def ob (s : PySem.W.SharedT) : He.AlX := He.obsX 6 fcs dfs tbs [] exs (HandSHeadRun.getT s)
theorem ob_eq (s : PySem.W.SharedT) : ob s = hk.obs s.abs := He.obsX_eq (HandSHeadRun.getT_eq s)
def loose : List Str := (["SheetError", "BadRegion", "BadSheet", "MOST_DEEP", "PLAIN", "INNER", "is_whole", "are_numbers", "is_nested", "is_region", "check_region", "MOST_FIGURES", "MOST_DRAWN", "is_number", "check_sheet", "check_small", "check_cell", "is_of_row", "plain_has", "moved_has", "cell_has", "has", "drawn", "_law_begin", "_law_draw", "_law_plain", "_law_region", "_law_row", "_law_has", "_law_cells", "_law_refused"] : List Str)
theorem run1 (b : Bool) (w : World) : HandSHeadRun.RunEq R (PySem.W.view R.prog [35]) hk ob 20000 loose (w.withFollow "special-get-raises" b) := by
  intro os
  cases b <;> kernel_rfl
theorem run (w : World) : HandSHeadRun.RunEq R (PySem.W.view R.prog [35]) hk ob 20000 loose w := PySem.W.byRow2 "special-get-raises" (P := fun w => HandSHeadRun.RunEq R (PySem.W.view R.prog [35]) hk ob 20000 loose w) (fun w => run1 false w) (fun w => run1 true w) w
theorem facts {P : Program} {w : World} {K : PySem.W.Frag} {h : Heap} {mg : Str → Option Value} {f : Addr} (X : K.In h) (G : h.Ns mainGlobals mg) (hfa : mg ("law" : Str) = some (.ref f)) (c : He.SaysX fcs dfs tbs [] exs w h K) (k : Nat) :
    ∃ fd : FuncData, (∀ (s : Shared) (v : Value), BindsTo s fd ⟨[v], []⟩ [("_law_script", v)]) ∧ ∀ base : Heap, FnOk P w K mg base (L2.CX P w) (k + 1) f fd ["_law_script"] (spP (fx K w) 1 (env (k + 1)).p_law_k01) := by
  have T := txt_of X G c.t c.more
  obtain ⟨fd, FD⟩ := T.sy.d.def_ 23 (d := ⟨("law", none), "law", "law", defArgs (top 35), defBody (top 35), defScope (top 35), [], []⟩) rfl
  have m1 := He.glo_ok X G (T.sy.d.fact 23 (f := .glo "law") rfl)
  have e := hfa.symm.trans m1
  cases e
  have b := FunD.bindsA (ps := ["_law_script"]) FD fun _ _ _ _ _ _ us hl => match us, hl with | [_], _ => rfl
  refine ⟨fd, fun s v => b s [v] rfl, fun base => ?_⟩
  exact fo_law_k01 T X G (lv T X G k) FD
end Pl

set_option maxHeartbeats 0
/-! printed by gen.py: the end of law k01. -/
namespace Pl
open PySem PySem.Spec PyProof.Rows L2 RZ PySem.W PySem.Calls
theorem end_of (n : Nat) (hr : Room (n + 1) callerA) (L : ∀ ns : List Int, ns.length ≤ 63 → (env (n + 1)).p_law_k01 [.scr ns] = .ok (.bl true)) : PySem.Challenge.rw_anysheet_k01_regions_on_sheets.Holds := by
  w_on; o_law
  refine HandSHeadRun.head_any (r := R) (q := PySem.W.view R.prog [35]) (H := hk) (ob := ob) (M := 20000) (loose := loose) (d := HandSHeadRun.topDef R.prog 35) (kwd := []) ob_eq
    (by kernel_rfl) (fun s => by kernel_rfl) run (by kernel_rfl) (by kernel_rfl) (by kernel_rfl) (by rfl) (by first | assumption | decide +kernel) (by decide +kernel) ⟨rfl, rfl, rfl, rfl, rfl, by decide +kernel⟩ ?hw ?hc
  case hw => w_witness2
  case hc =>
    refine LamX.walk_ofTsE (l := PySem.Challenge.rw_anysheet_k01_regions_on_sheets) (n := 63) (k := n + 1) (x := "_law_script") (CX := fun w => L2.CX R.prog w) rfl (by decide) (by kernel_rfl) hr ?F ?C
    case C =>
      intro w H s e s' h
      obtain ⟨_, _, _, _, _, _, _, _, _, _, _, _, z⟩ := h
      exact z
    case F =>
      intro w mg fa h Y G hmg0
      obtain ⟨K, KX, c⟩ := Y
      have hmg : mg ("law" : PySem.Str) = some (.ref fa) := by
        have e : (HandSHeadRun.topDef R.prog 35).name = ("law" : PySem.Str) := by kernel_rfl
        rw [← e]
        exact hmg0
      obtain ⟨fd, hb, hF⟩ := facts (P := R.prog) (w := w) KX G hmg c n
      refine ⟨K, KX, fd, [], spP (fx K w) 1 (env (n + 1)).p_law_k01, (fun _ z => absurd z List.not_mem_nil), (fun _ z => absurd z List.not_mem_nil), (fun _ z => absurd z List.not_mem_nil), hb, ?_, fun base _ _ _ => hF base⟩
      intro H a ns hl _ _ hS
      refine ⟨rfl, H, [.scr ns], Same.refl H, .cons (.scr hS) .nil, ?_⟩
      rw [L ns hl]
      intro v G' H' g r
      cases r
      rfl
end Pl

set_option maxHeartbeats 4000000
/-! S0: regions as a type of their own, what cell_has says of them. -/
namespace Pl
open PySem PySem.Spec PyProof.Rows L2

inductive Rg where
  | all | none
  | high (a : Int) | wide (a : Int) | border (a : Int)
  | rows (a k : Int) | rowsUp (a k : Int) | cols (a k : Int) | colsBack (a k : Int)
  | and (x y : Rg) | or (x y : Rg)
  | not (x : Rg) | mirror (x : Rg) | flip (x : Rg) | turn (x : Rg)
  | move (p q : Int) (x : Rg)
namespace Rg
def pv : Rg → PV
  | .all => .tup [.str "all"]
  | .none => .tup [.str "none"]
  | .high a => .tup [.str "high", .int a]
  | .wide a => .tup [.str "wide", .int a]
  | .border a => .tup [.str "border", .int a]
  | .rows a k => .tup [.str "rows", .int a, .int k]
  | .rowsUp a k => .tup [.str "rows_up", .int a, .int k]
  | .cols a k => .tup [.str "cols", .int a, .int k]
  | .colsBack a k => .tup [.str "cols_back", .int a, .int k]
  | .and x y => .tup [.str "and", x.pv, y.pv]
  | .or x y => .tup [.str "or", x.pv, y.pv]
  | .not x => .tup [.str "not", x.pv]
  | .mirror x => .tup [.str "mirror", x.pv]
  | .flip x => .tup [.str "flip", x.pv]
  | .turn x => .tup [.str "turn", x.pv]
  | .move p q x => .tup [.str "move", .int p, .int q, x.pv]
def dep : Rg → Nat
  | .and x y => max x.dep y.dep + 1
  | .or x y => max x.dep y.dep + 1
  | .not x => x.dep + 1
  | .mirror x => x.dep + 1
  | .flip x => x.dep + 1
  | .turn x => x.dep + 1
  | .move _ _ x => x.dep + 1
  | _ => 1
/-- its numbers are as they ought to be -/
def Ok : Rg → Prop
  | .high a => 0 ≤ a ∧ a ≤ 9
  | .wide a => 0 ≤ a ∧ a ≤ 9
  | .border a => 0 ≤ a ∧ a ≤ 9
  | .rows a k => (0 ≤ a ∧ a ≤ 9) ∧ 0 ≤ k ∧ k ≤ 6
  | .rowsUp a k => (0 ≤ a ∧ a ≤ 9) ∧ 0 ≤ k ∧ k ≤ 6
  | .cols a k => (0 ≤ a ∧ a ≤ 9) ∧ 0 ≤ k ∧ k ≤ 6
  | .colsBack a k => (0 ≤ a ∧ a ≤ 9) ∧ 0 ≤ k ∧ k ≤ 6
  | .and x y => x.Ok ∧ y.Ok
  | .or x y => x.Ok ∧ y.Ok
  | .not x => x.Ok
  | .mirror x => x.Ok
  | .flip x => x.Ok
  | .turn x => x.Ok
  | .move p q x => (-6 ≤ p ∧ p ≤ 6) ∧ (-6 ≤ q ∧ q ≤ 6) ∧ x.Ok
  | _ => True
def row (p a k : Int) : Bool := if k = 0 then p == a else (decide (a ≤ p) && (p - a) % k == 0)
def has : Rg → Int → Int → Int → Int → Bool
  | .all, _, _, _, _ => true
  | .none, _, _, _, _ => false
  | .high a, n, _, _, _ => decide (a ≤ n)
  | .wide a, _, m, _, _ => decide (a ≤ m)
  | .border a, n, m, i, j => decide (min (min i (n - 1 - i)) (min j (m - 1 - j)) < a)
  | .rows a k, _, _, i, _ => row i a k
  | .rowsUp a k, n, _, i, _ => row (n - 1 - i) a k
  | .cols a k, _, _, _, j => row j a k
  | .colsBack a k, _, m, _, j => row (m - 1 - j) a k
  | .and x y, n, m, i, j => x.has n m i j && y.has n m i j
  | .or x y, n, m, i, j => x.has n m i j || y.has n m i j
  | .not x, n, m, i, j => !x.has n m i j
  | .mirror x, n, m, i, j => x.has n m (n - 1 - i) j
  | .flip x, n, m, i, j => x.has n m i (m - 1 - j)
  | .turn x, n, m, i, j => x.has m n j i
  | .move p q x, n, m, i, j => (decide (0 ≤ i - p) && decide (i - p < n)) && ((decide (0 ≤ j - q) && decide (j - q < m)) && x.has n m (i - p) (j - q))
end Rg

/-! ### what stands behind a return is not reached -/
theorem if_seq (c : DD Bool) (a b t : DS) : sSeq (sIf c a b) t = sIf c (sSeq a t) (sSeq b t) := by
  funext ρ
  unfold sSeq sIf
  cases c ρ with
  | ok k ρ => cases k <;> rfl
  | exc c as ρ => rfl
  | stuck => rfl
theorem nil_seq (t : DS) : sSeq sNil t = t := rfl
theorem ret_seq (u : DE) (t : DS) : sSeq (sRet u) t = sRet u := by
  funext ρ
  unfold sSeq sRet
  cases u ρ <;> rfl
theorem seq_seq (a b t : DS) : sSeq (sSeq a b) t = sSeq a (sSeq b t) := by
  funext ρ
  unfold sSeq
  cases a ρ <;> rfl
theorem raise_seq (c : Nat) (t : DS) : sSeq (sRaise c) t = sRaise c := rfl
/-- what is known already, as a meaning -/
def dVs (xs : List PV) : DD (List PV) := fun ρ => .ok xs ρ
theorem pEq_int (i j : Int) : pEq (.int i) (.int j) = some (.bl (i == j)) := rfl
/-- the rows' rule, both accounts -/
theorem row_of {d : DS} (hd : ∀ p a k : Int, runB 3 d [.int p, .int a, .int k] = runB 3 (sSeq (sIf (dAsB (dBin pEq (dVar 2) (dC (.int 0)))) (sRet (dBin pEq (dVar 0) (dVar 1))) sNil)
    (sRet (dAndV (dBin pGe (dVar 0) (dVar 1)) (dBin pEq (dBin pMod (dBin pSub (dVar 0) (dVar 1)) (dVar 2)) (dC (.int 0)))))) [.int p, .int a, .int k]) (p a k : Int) (hk : 0 ≤ k) :
    runB 3 d [.int p, .int a, .int k] = .ok (.bl (Rg.row p a k)) := by
  rw [hd]
  unfold Rg.row
  by_cases h : k = 0
  · subst h
    rfl
  · have h1 : (k == 0) = false := by simpa using h
    have h2 : 0 < k := by omega
    rw [if_neg h]
    by_cases h3 : a ≤ p
    · simp [runB, sSeq, sIf, dAsB, dBin, dVar, dC, Res.bind, ofO, pEq_int, h1, asB, Res.toOut, sNil, Out.thn, sRet, dAndV, pGe, h3, pSub, pMod, h2]
    · simp [runB, sSeq, sIf, dAsB, dBin, dVar, dC, Res.bind, ofO, pEq_int, h1, asB, Res.toOut, sNil, Out.thn, sRet, dAndV, pGe, h3, pSub, pMod, h2]
theorem is_of_row (e : Nat) (p a k : Int) (hk : 0 ≤ k) : (env (e + 1)).p_is_of_row [.int p, .int a, .int k] = .ok (.bl (Rg.row p a k)) := row_of (fun _ _ _ => rfl) p a k hk
theorem l_row (e : Nat) (p a k : Int) (hk : 0 ≤ k) : (env (e + 1)).p_l_row [.int p, .int a, .int k] = .ok (.bl (Rg.row p a k)) := row_of (fun _ _ _ => rfl) p a k hk
end Pl

set_option maxHeartbeats 4000000
/-! S1: cell_has and the law's own account are Rg.has. -/
namespace Pl
open PySem PySem.Spec PyProof.Rows L2

theorem run_call {f : List PV → FR} {xs : List PV} {p : PV} (h : f xs = .ok p) (n : Nat) (ps : List PV) : runB n (sRet (dCall f (dVs xs))) ps = .ok p := by
  simp [runB, sRet, dCall, dVs, Res.bind, h, Res.toOut]
theorem run_notc {f : List PV → FR} {xs : List PV} {b : Bool} (h : f xs = .ok (.bl b)) (n : Nat) (ps : List PV) : runB n (sRet (dNotV (dCall f (dVs xs)))) ps = .ok (.bl (!b)) := by
  simp [runB, sRet, dNotV, dCall, dVs, Res.bind, h, Res.toOut]
theorem run_and' {f : List PV → FR} {u : DE} {xs : List PV} {b c : Bool} (h : f xs = .ok (.bl b)) (n : Nat) (ps : List PV) (h2 : runB n (sRet u) ps = .ok (.bl c)) : runB n (sRet (dAndV (dCall f (dVs xs)) u)) ps = .ok (.bl (b && c)) := by
  cases b
  · simp [runB, sRet, dAndV, dCall, dVs, Res.bind, h, Res.toOut]
  · refine Eq.trans ?_ h2
    simp [runB, sRet, dAndV, dCall, dVs, Res.bind, h, Res.toOut]
theorem run_or' {f : List PV → FR} {u : DE} {xs : List PV} {b c : Bool} (h : f xs = .ok (.bl b)) (n : Nat) (ps : List PV) (h2 : runB n (sRet u) ps = .ok (.bl c)) : runB n (sRet (dOrV (dCall f (dVs xs)) u)) ps = .ok (.bl (b || c)) := by
  cases b
  · refine Eq.trans ?_ h2
    simp [runB, sRet, dOrV, dCall, dVs, Res.bind, h, Res.toOut]
  · simp [runB, sRet, dOrV, dCall, dVs, Res.bind, h, Res.toOut]
/-- where a run begins -/
def st0 (k : Nat) (ps : List PV) : Rho := ps.map (fun p => some (SV.val p)) ++ List.replicate (k - ps.length) none
theorem call_ok {f : List PV → FR} {xs : List PV} {p : PV} {ρ : Rho} (h : f xs = .ok p) : dCall f (dVs xs) ρ = .ok p ρ := by
  simp [dCall, dVs, Res.bind, h]
/-- 0 <= x < n and 0 <= y < m and what a call says -/
theorem run_mv {dx dy dn dm u : DE} {b : Bool} {x y n m : Int} (k : Nat) (ps : List PV) (hx : dx (st0 k ps) = .ok (.int x) (st0 k ps)) (hn : dn (st0 k ps) = .ok (.int n) (st0 k ps)) (hy : dy (st0 k ps) = .ok (.int y) (st0 k ps)) (hm : dm (st0 k ps) = .ok (.int m) (st0 k ps))
    (hu : u (st0 k ps) = .ok (.bl b) (st0 k ps)) :
    runB k (sRet (dAndV (dChain pLe pLt (dC (.int 0)) dx dn) (dAndV (dChain pLe pLt (dC (.int 0)) dy dm) u))) ps =
      .ok (.bl ((decide (0 ≤ x) && decide (x < n)) && ((decide (0 ≤ y) && decide (y < m)) && b))) := by
  unfold runB
  rw [show (ps.map (fun p => some (SV.val p)) ++ List.replicate (k - ps.length) none) = st0 k ps from rfl]
  generalize st0 k ps = ρ at *
  by_cases h1 : 0 ≤ x <;> by_cases h2 : x < n <;> by_cases h3 : 0 ≤ y <;> by_cases h4 : y < m <;>
    simp [sRet, dAndV, dChain, dC, pLe, pLt, Res.bind, ofO, Res.toOut, hx, hy, hn, hm, hu, h1, h2, h3, h4]

/-! ### the program's -/
section
variable (e : Nat) (n m i j : Int)
def leaf : Rg → Bool
  | .and _ _ | .or _ _ | .not _ | .mirror _ | .flip _ | .turn _ | .move _ _ _ => false
  | _ => true
theorem plain_has (r : Rg) (hl : leaf r = true) (ok : r.Ok) : (env (e + 2)).p_plain_has [r.pv, .int n, .int m, .int i, .int j] = .ok (.bl (r.has n m i j)) := by
  show runB 7 (d_plain_has (env (e + 1))) _ = _
  cases r with
  | all => kernel_rfl
  | none => kernel_rfl
  | high a => kernel_rfl
  | wide a => kernel_rfl
  | border a => kernel_rfl
  | rows a k =>
    refine Eq.trans ?_ (run_call (is_of_row e i a k ok.2.1) 7 [(Rg.rows a k).pv, .int n, .int m, .int i, .int j, .str "rows", .int i])
    kernel_rfl
  | rowsUp a k =>
    refine Eq.trans ?_ (run_call (is_of_row e (n - 1 - i) a k ok.2.1) 7 [(Rg.rowsUp a k).pv, .int n, .int m, .int i, .int j, .str "rows_up", .int (n - 1 - i)])
    kernel_rfl
  | cols a k =>
    refine Eq.trans ?_ (run_call (is_of_row e j a k ok.2.1) 7 [(Rg.cols a k).pv, .int n, .int m, .int i, .int j, .str "cols", .int j])
    kernel_rfl
  | colsBack a k =>
    refine Eq.trans ?_ (run_call (is_of_row e (m - 1 - j) a k ok.2.1) 7 [(Rg.colsBack a k).pv, .int n, .int m, .int i, .int j, .str "cols_back", .int (m - 1 - j)])
    kernel_rfl
  | _ => cases hl
end
theorem dep_pos (r : Rg) : 1 ≤ r.dep := by cases r <;> simp [Rg.dep]
/-- fuel: four calls a level -/
theorem cell_has : ∀ (r : Rg) (ok : r.Ok) (e : Nat) (n m i j : Int), (env (e + 3 * r.dep)).p_cell_has [r.pv, .int n, .int m, .int i, .int j] = .ok (.bl (r.has n m i j)) := by
  intro r
  have base : ∀ (r : Rg) (hl : leaf r = true) (ok : r.Ok) (e : Nat) (n m i j : Int), (env (e + 3)).p_cell_has [r.pv, .int n, .int m, .int i, .int j] = .ok (.bl (r.has n m i j)) := by
    intro r hl ok e n m i j
    show runB 6 (d_cell_has (env (e + 2))) _ = _
    unfold d_cell_has
    simp only [if_seq, nil_seq, ret_seq, seq_seq]
    have h := plain_has e n m i j r hl ok
    revert h
    generalize env (e + 2) = E
    intro h
    cases r with
    | all => exact Eq.trans (by kernel_rfl) (run_call h 6 [Rg.all.pv, .int n, .int m, .int i, .int j, .str "all"])
    | none => exact Eq.trans (by kernel_rfl) (run_call h 6 [Rg.none.pv, .int n, .int m, .int i, .int j, .str "none"])
    | high a => exact Eq.trans (by kernel_rfl) (run_call h 6 [(Rg.high a).pv, .int n, .int m, .int i, .int j, .str "high"])
    | wide a => exact Eq.trans (by kernel_rfl) (run_call h 6 [(Rg.wide a).pv, .int n, .int m, .int i, .int j, .str "wide"])
    | border a => exact Eq.trans (by kernel_rfl) (run_call h 6 [(Rg.border a).pv, .int n, .int m, .int i, .int j, .str "border"])
    | rows a k => exact Eq.trans (by kernel_rfl) (run_call h 6 [(Rg.rows a k).pv, .int n, .int m, .int i, .int j, .str "rows"])
    | rowsUp a k => exact Eq.trans (by kernel_rfl) (run_call h 6 [(Rg.rowsUp a k).pv, .int n, .int m, .int i, .int j, .str "rows_up"])
    | cols a k => exact Eq.trans (by kernel_rfl) (run_call h 6 [(Rg.cols a k).pv, .int n, .int m, .int i, .int j, .str "cols"])
    | colsBack a k => exact Eq.trans (by kernel_rfl) (run_call h 6 [(Rg.colsBack a k).pv, .int n, .int m, .int i, .int j, .str "cols_back"])
    | _ => cases hl
  induction r with
  | all => intro ok e n m i j; exact base _ rfl ok e n m i j
  | none => intro ok e n m i j; exact base _ rfl ok e n m i j
  | high a => intro ok e n m i j; exact base _ rfl ok e n m i j
  | wide a => intro ok e n m i j; exact base _ rfl ok e n m i j
  | border a => intro ok e n m i j; exact base _ rfl ok e n m i j
  | rows a k => intro ok e n m i j; exact base _ rfl ok e n m i j
  | rowsUp a k => intro ok e n m i j; exact base _ rfl ok e n m i j
  | cols a k => intro ok e n m i j; exact base _ rfl ok e n m i j
  | colsBack a k => intro ok e n m i j; exact base _ rfl ok e n m i j
  | and x y ihx ihy =>
    intro ok e n m i j
    have h1 := ihx ok.1 (e + 3 * (max x.dep y.dep - x.dep) + 2) n m i j
    have h2 := ihy ok.2 (e + 3 * (max x.dep y.dep - y.dep) + 2) n m i j
    have e1 : e + 3 * (max x.dep y.dep - x.dep) + 2 + 3 * x.dep = e + 3 * max x.dep y.dep + 2 := by have := Nat.le_max_left x.dep y.dep; omega
    have e2 : e + 3 * (max x.dep y.dep - y.dep) + 2 + 3 * y.dep = e + 3 * max x.dep y.dep + 2 := by have := Nat.le_max_right x.dep y.dep; omega
    rw [e1] at h1
    rw [e2] at h2
    show runB 6 (d_cell_has (env (e + 3 * max x.dep y.dep + 2))) _ = _
    unfold d_cell_has
    simp only [if_seq, nil_seq, ret_seq, seq_seq]
    revert h1 h2
    generalize env (e + 3 * max x.dep y.dep + 2) = E
    intro h1 h2
    exact Eq.trans (by kernel_rfl) (run_and' (u := dCall E.p_cell_has (dCons (dBin pIx (dVar 0) (dC (.int 2))) (dCons (dVar 1) (dCons (dVar 2) (dCons (dVar 3) (dCons (dVar 4) dNil)))))) h1 6 [(Rg.and x y).pv, .int n, .int m, .int i, .int j, .str "and"]
      (Eq.trans (by kernel_rfl) (run_call h2 6 [(Rg.and x y).pv, .int n, .int m, .int i, .int j, .str "and"])))
  | or x y ihx ihy =>
    intro ok e n m i j
    have h1 := ihx ok.1 (e + 3 * (max x.dep y.dep - x.dep) + 2) n m i j
    have h2 := ihy ok.2 (e + 3 * (max x.dep y.dep - y.dep) + 2) n m i j
    have e1 : e + 3 * (max x.dep y.dep - x.dep) + 2 + 3 * x.dep = e + 3 * max x.dep y.dep + 2 := by have := Nat.le_max_left x.dep y.dep; omega
    have e2 : e + 3 * (max x.dep y.dep - y.dep) + 2 + 3 * y.dep = e + 3 * max x.dep y.dep + 2 := by have := Nat.le_max_right x.dep y.dep; omega
    rw [e1] at h1
    rw [e2] at h2
    show runB 6 (d_cell_has (env (e + 3 * max x.dep y.dep + 2))) _ = _
    unfold d_cell_has
    simp only [if_seq, nil_seq, ret_seq, seq_seq]
    revert h1 h2
    generalize env (e + 3 * max x.dep y.dep + 2) = E
    intro h1 h2
    exact Eq.trans (by kernel_rfl) (run_or' (u := dCall E.p_cell_has (dCons (dBin pIx (dVar 0) (dC (.int 2))) (dCons (dVar 1) (dCons (dVar 2) (dCons (dVar 3) (dCons (dVar 4) dNil)))))) h1 6 [(Rg.or x y).pv, .int n, .int m, .int i, .int j, .str "or"]
      (Eq.trans (by kernel_rfl) (run_call h2 6 [(Rg.or x y).pv, .int n, .int m, .int i, .int j, .str "or"])))
  | not x ih =>
    intro ok e n m i j
    have h := ih ok (e + 2) n m i j
    rw [show e + 2 + 3 * x.dep = e + 3 * x.dep + 2 from by omega] at h
    show runB 6 (d_cell_has (env (e + 3 * x.dep + 2))) _ = _
    unfold d_cell_has
    simp only [if_seq, nil_seq, ret_seq, seq_seq]
    revert h
    generalize env (e + 3 * x.dep + 2) = E
    intro h
    exact Eq.trans (by kernel_rfl) (run_notc h 6 [(Rg.not x).pv, .int n, .int m, .int i, .int j, .str "not"])
  | mirror x ih =>
    intro ok e n m i j
    have h := ih ok (e + 2) n m (n - 1 - i) j
    rw [show e + 2 + 3 * x.dep = e + 3 * x.dep + 2 from by omega] at h
    show runB 6 (d_cell_has (env (e + 3 * x.dep + 2))) _ = _
    unfold d_cell_has
    simp only [if_seq, nil_seq, ret_seq, seq_seq]
    revert h
    generalize env (e + 3 * x.dep + 2) = E
    intro h
    exact Eq.trans (by kernel_rfl) (run_call h 6 [(Rg.mirror x).pv, .int n, .int m, .int i, .int j, .str "mirror"])
  | flip x ih =>
    intro ok e n m i j
    have h := ih ok (e + 2) n m i (m - 1 - j)
    rw [show e + 2 + 3 * x.dep = e + 3 * x.dep + 2 from by omega] at h
    show runB 6 (d_cell_has (env (e + 3 * x.dep + 2))) _ = _
    unfold d_cell_has
    simp only [if_seq, nil_seq, ret_seq, seq_seq]
    revert h
    generalize env (e + 3 * x.dep + 2) = E
    intro h
    exact Eq.trans (by kernel_rfl) (run_call h 6 [(Rg.flip x).pv, .int n, .int m, .int i, .int j, .str "flip"])
  | turn x ih =>
    intro ok e n m i j
    have h := ih ok (e + 2) m n j i
    rw [show e + 2 + 3 * x.dep = e + 3 * x.dep + 2 from by omega] at h
    show runB 6 (d_cell_has (env (e + 3 * x.dep + 2))) _ = _
    unfold d_cell_has
    simp only [if_seq, nil_seq, ret_seq, seq_seq]
    revert h
    generalize env (e + 3 * x.dep + 2) = E
    intro h
    exact Eq.trans (by kernel_rfl) (run_call h 6 [(Rg.turn x).pv, .int n, .int m, .int i, .int j, .str "turn"])
  | move p q x ih =>
    intro ok e n m i j
    have h := ih ok.2.2 (e + 1) n m (i - p) (j - q)
    rw [show e + 1 + 3 * x.dep = e + 3 * x.dep + 1 from by omega] at h
    have hm : (env (e + 3 * x.dep + 2)).p_moved_has [(Rg.move p q x).pv, .int n, .int m, .int i, .int j] = .ok (.bl ((Rg.move p q x).has n m i j)) := by
      show runB 7 (d_moved_has (env (e + 3 * x.dep + 1))) _ = _
      revert h
      generalize env (e + 3 * x.dep + 1) = E
      intro h
      refine Eq.trans ?_ (run_mv (x := i - p) (y := j - q) (n := n) (m := m) (dx := dVar 5) (dy := dVar 6) (dn := dVar 1) (dm := dVar 2) (u := dCall E.p_cell_has (dCons (dBin pIx (dVar 0) (dC (.int 3))) (dCons (dVar 1) (dCons (dVar 2) (dCons (dVar 5) (dCons (dVar 6) dNil))))))
        7 [(Rg.move p q x).pv, .int n, .int m, .int i, .int j, .int (i - p), .int (j - q)] rfl rfl rfl rfl (Eq.trans ?_ (call_ok h)))
      · kernel_rfl
      · kernel_rfl
    show runB 6 (d_cell_has (env (e + 3 * x.dep + 2))) _ = _
    unfold d_cell_has
    simp only [if_seq, nil_seq, ret_seq, seq_seq]
    revert hm
    generalize env (e + 3 * x.dep + 2) = E
    intro hm
    exact Eq.trans (by kernel_rfl) (run_call hm 6 [(Rg.move p q x).pv, .int n, .int m, .int i, .int j, .str "move"])
end Pl

set_option maxHeartbeats 4000000
/-! S2: the law's own account is Rg.has. -/
namespace Pl
open PySem PySem.Spec PyProof.Rows L2
theorem run_set {d : DE} {t : DS} {i : Nat} {x : PV} (k : Nat) (ps ps' : List PV) (h : d (st0 k ps) = .ok x (st0 k ps)) (hs : (st0 k ps).set i (some (.val x)) = st0 k ps') : runB k (sSeq (sSet i d) t) ps = runB k t ps' := by
  unfold runB
  rw [show (ps.map (fun p => some (SV.val p)) ++ List.replicate (k - ps.length) none) = st0 k ps from rfl, show (ps'.map (fun p => some (SV.val p)) ++ List.replicate (k - ps'.length) none) = st0 k ps' from rfl]
  simp [sSeq, sSet, h, Res.toOut, Out.thn, hs]
theorem run_border {n m i j a : Int} (ps : List PV) (d1 d2 d3 d4 da : DE) (k : Nat) (h1 : d1 (st0 k ps) = .ok (.int i) (st0 k ps)) (h2 : d2 (st0 k ps) = .ok (.int j) (st0 k ps)) (h3 : d3 (st0 k ps) = .ok (.int (n - i)) (st0 k ps)) (h4 : d4 (st0 k ps) = .ok (.int (m - j)) (st0 k ps)) (ha : da (st0 k ps) = .ok (.int a) (st0 k ps)) :
    runB k (sRet (dOrV (dBin pLt d1 da) (dOrV (dBin pLt d2 da) (dOrV (dBin pLe d3 da) (dBin pLe d4 da))))) ps = .ok (.bl (decide (min (min i (n - 1 - i)) (min j (m - 1 - j)) < a))) := by
  unfold runB
  rw [show (ps.map (fun p => some (SV.val p)) ++ List.replicate (k - ps.length) none) = st0 k ps from rfl]
  generalize st0 k ps = ρ at *
  have e : decide (min (min i (n - 1 - i)) (min j (m - 1 - j)) < a) = (decide (i < a) || (decide (j < a) || (decide (n - i ≤ a) || decide (m - j ≤ a)))) := by
    rw [Bool.eq_iff_iff]
    simp only [Bool.or_eq_true, decide_eq_true_eq]
    omega
  rw [e]
  by_cases q1 : i < a <;> by_cases q2 : j < a <;> by_cases q3 : n - i ≤ a <;> by_cases q4 : m - j ≤ a <;>
    simp [sRet, dOrV, dBin, pLe, pLt, Res.bind, ofO, Res.toOut, h1, h2, h3, h4, ha, q1, q2, q3, q4]
section
variable (e : Nat) (n m i j : Int)
theorem l_leaf (r : Rg) (hl : leaf r = true) (ok : r.Ok) : (env (e + 2)).p_l_has [r.pv, .int n, .int m, .int i, .int j] = .ok (.bl (r.has n m i j)) := by
  show runB 7 (d_l_has (env (e + 1))) _ = _
  unfold d_l_has
  simp only [if_seq, nil_seq, ret_seq, seq_seq]
  cases r with
  | all => kernel_rfl
  | none => kernel_rfl
  | high a => kernel_rfl
  | wide a => kernel_rfl
  | border a =>
    refine Eq.trans ?_ (run_border (n := n) (m := m) (i := i) (j := j) (a := a) [(Rg.border a).pv, .int n, .int m, .int i, .int j, .str "border"] (dVar 3) (dVar 4) (dBin pSub (dVar 1) (dVar 3)) (dBin pSub (dVar 2) (dVar 4)) (dBin pIx (dVar 0) (dC (.int 1))) 7 rfl rfl rfl rfl rfl)
    kernel_rfl
  | rows a k =>
    refine Eq.trans ?_ (run_call (l_row e (i) a k ok.2.1) 7 [(Rg.rows a k).pv, .int n, .int m, .int i, .int j, .str "rows"])
    kernel_rfl
  | rowsUp a k =>
    refine Eq.trans ?_ (run_call (l_row e (n - 1 - i) a k ok.2.1) 7 [(Rg.rowsUp a k).pv, .int n, .int m, .int i, .int j, .str "rows_up"])
    kernel_rfl
  | cols a k =>
    refine Eq.trans ?_ (run_call (l_row e (j) a k ok.2.1) 7 [(Rg.cols a k).pv, .int n, .int m, .int i, .int j, .str "cols"])
    kernel_rfl
  | colsBack a k =>
    refine Eq.trans ?_ (run_call (l_row e (m - 1 - j) a k ok.2.1) 7 [(Rg.colsBack a k).pv, .int n, .int m, .int i, .int j, .str "cols_back"])
    kernel_rfl
  | _ => cases hl
end
theorem l_has : ∀ (r : Rg) (ok : r.Ok) (e : Nat) (n m i j : Int), (env (e + r.dep + 1)).p_l_has [r.pv, .int n, .int m, .int i, .int j] = .ok (.bl (r.has n m i j)) := by
  intro r
  induction r with
  | all => intro ok e n m i j; exact l_leaf e n m i j _ rfl ok
  | none => intro ok e n m i j; exact l_leaf e n m i j _ rfl ok
  | high a => intro ok e n m i j; exact l_leaf e n m i j _ rfl ok
  | wide a => intro ok e n m i j; exact l_leaf e n m i j _ rfl ok
  | border a => intro ok e n m i j; exact l_leaf e n m i j _ rfl ok
  | rows a k => intro ok e n m i j; exact l_leaf e n m i j _ rfl ok
  | rowsUp a k => intro ok e n m i j; exact l_leaf e n m i j _ rfl ok
  | cols a k => intro ok e n m i j; exact l_leaf e n m i j _ rfl ok
  | colsBack a k => intro ok e n m i j; exact l_leaf e n m i j _ rfl ok
  | and x y ihx ihy =>
    intro ok e n m i j
    have h1 := ihx ok.1 (e + (max x.dep y.dep - x.dep)) n m i j
    have h2 := ihy ok.2 (e + (max x.dep y.dep - y.dep)) n m i j
    have e1 : e + (max x.dep y.dep - x.dep) + x.dep + 1 = e + max x.dep y.dep + 1 := by have := Nat.le_max_left x.dep y.dep; omega
    have e2 : e + (max x.dep y.dep - y.dep) + y.dep + 1 = e + max x.dep y.dep + 1 := by have := Nat.le_max_right x.dep y.dep; omega
    rw [e1] at h1
    rw [e2] at h2
    show runB 7 (d_l_has (env (e + max x.dep y.dep + 1))) _ = _
    unfold d_l_has
    simp only [if_seq, nil_seq, ret_seq, seq_seq]
    revert h1 h2
    generalize env (e + max x.dep y.dep + 1) = E
    intro h1 h2
    refine Eq.trans ?_ (Eq.trans (run_set (i := 6) (d := dCall E.p_l_has (dCons (dBin pIx (dVar 0) (dC (.int 1))) (dCons (dVar 1) (dCons (dVar 2) (dCons (dVar 3) (dCons (dVar 4) dNil))))))
      (t := sIf (dAsB (dBin pEq (dVar 5) (dC (.str "and")))) (sRet (dAndV (dVar 6) (dCall E.p_l_has (dCons (dBin pIx (dVar 0) (dC (.int 2))) (dCons (dVar 1) (dCons (dVar 2) (dCons (dVar 3) (dCons (dVar 4) dNil)))))))) (sRet (dOrV (dVar 6) (dCall E.p_l_has (dCons (dBin pIx (dVar 0) (dC (.int 2))) (dCons (dVar 1) (dCons (dVar 2) (dCons (dVar 3) (dCons (dVar 4) dNil)))))))))
      7 [(Rg.and x y).pv, .int n, .int m, .int i, .int j, .str "and"] [(Rg.and x y).pv, .int n, .int m, .int i, .int j, .str "and", .bl (x.has n m i j)] (Eq.trans (by kernel_rfl) (call_ok h1)) rfl) ?_)
    · kernel_rfl
    · show _ = FR.ok (.bl (x.has n m i j && y.has n m i j))
      revert h1
      generalize x.has n m i j = b
      intro h1
      cases b
      · kernel_rfl
      · exact Eq.trans (by kernel_rfl) (run_call h2 7 [(Rg.and x y).pv, .int n, .int m, .int i, .int j, .str "and", .bl true])
  | or x y ihx ihy =>
    intro ok e n m i j
    have h1 := ihx ok.1 (e + (max x.dep y.dep - x.dep)) n m i j
    have h2 := ihy ok.2 (e + (max x.dep y.dep - y.dep)) n m i j
    have e1 : e + (max x.dep y.dep - x.dep) + x.dep + 1 = e + max x.dep y.dep + 1 := by have := Nat.le_max_left x.dep y.dep; omega
    have e2 : e + (max x.dep y.dep - y.dep) + y.dep + 1 = e + max x.dep y.dep + 1 := by have := Nat.le_max_right x.dep y.dep; omega
    rw [e1] at h1
    rw [e2] at h2
    show runB 7 (d_l_has (env (e + max x.dep y.dep + 1))) _ = _
    unfold d_l_has
    simp only [if_seq, nil_seq, ret_seq, seq_seq]
    revert h1 h2
    generalize env (e + max x.dep y.dep + 1) = E
    intro h1 h2
    refine Eq.trans ?_ (Eq.trans (run_set (i := 6) (d := dCall E.p_l_has (dCons (dBin pIx (dVar 0) (dC (.int 1))) (dCons (dVar 1) (dCons (dVar 2) (dCons (dVar 3) (dCons (dVar 4) dNil))))))
      (t := sIf (dAsB (dBin pEq (dVar 5) (dC (.str "and")))) (sRet (dAndV (dVar 6) (dCall E.p_l_has (dCons (dBin pIx (dVar 0) (dC (.int 2))) (dCons (dVar 1) (dCons (dVar 2) (dCons (dVar 3) (dCons (dVar 4) dNil)))))))) (sRet (dOrV (dVar 6) (dCall E.p_l_has (dCons (dBin pIx (dVar 0) (dC (.int 2))) (dCons (dVar 1) (dCons (dVar 2) (dCons (dVar 3) (dCons (dVar 4) dNil)))))))))
      7 [(Rg.or x y).pv, .int n, .int m, .int i, .int j, .str "or"] [(Rg.or x y).pv, .int n, .int m, .int i, .int j, .str "or", .bl (x.has n m i j)] (Eq.trans (by kernel_rfl) (call_ok h1)) rfl) ?_)
    · kernel_rfl
    · show _ = FR.ok (.bl (x.has n m i j || y.has n m i j))
      revert h1
      generalize x.has n m i j = b
      intro h1
      cases b
      · exact Eq.trans (by kernel_rfl) (run_call h2 7 [(Rg.or x y).pv, .int n, .int m, .int i, .int j, .str "or", .bl false])
      · kernel_rfl
  | not x ih =>
    intro ok e n m i j
    have h := ih ok e n m i j
    show runB 7 (d_l_has (env (e + x.dep + 1))) _ = _
    unfold d_l_has
    simp only [if_seq, nil_seq, ret_seq, seq_seq]
    revert h
    generalize env (e + x.dep + 1) = E
    intro h
    exact Eq.trans (by kernel_rfl) (run_notc h 7 [(Rg.not x).pv, .int n, .int m, .int i, .int j, .str "not"])
  | mirror x ih =>
    intro ok e n m i j
    have h := ih ok e n m (n - 1 - i) j
    show runB 7 (d_l_has (env (e + x.dep + 1))) _ = _
    unfold d_l_has
    simp only [if_seq, nil_seq, ret_seq, seq_seq]
    revert h
    generalize env (e + x.dep + 1) = E
    intro h
    exact Eq.trans (by kernel_rfl) (run_call h 7 [(Rg.mirror x).pv, .int n, .int m, .int i, .int j, .str "mirror"])
  | flip x ih =>
    intro ok e n m i j
    have h := ih ok e n m i (m - 1 - j)
    show runB 7 (d_l_has (env (e + x.dep + 1))) _ = _
    unfold d_l_has
    simp only [if_seq, nil_seq, ret_seq, seq_seq]
    revert h
    generalize env (e + x.dep + 1) = E
    intro h
    exact Eq.trans (by kernel_rfl) (run_call h 7 [(Rg.flip x).pv, .int n, .int m, .int i, .int j, .str "flip"])
  | turn x ih =>
    intro ok e n m i j
    have h := ih ok e m n j i
    show runB 7 (d_l_has (env (e + x.dep + 1))) _ = _
    unfold d_l_has
    simp only [if_seq, nil_seq, ret_seq, seq_seq]
    revert h
    generalize env (e + x.dep + 1) = E
    intro h
    exact Eq.trans (by kernel_rfl) (run_call h 7 [(Rg.turn x).pv, .int n, .int m, .int i, .int j, .str "turn"])
  | move p q x ih =>
    intro ok e n m i j
    have h := ih ok.2.2 e n m (i - p) (j - q)
    show runB 7 (d_l_has (env (e + x.dep + 1))) _ = _
    unfold d_l_has
    simp only [if_seq, nil_seq, ret_seq, seq_seq]
    revert h
    generalize env (e + x.dep + 1) = E
    intro h
    refine Eq.trans ?_ (run_mv (x := i - p) (y := j - q) (n := n) (m := m) (dx := dVar 3) (dy := dVar 4) (dn := dVar 1) (dm := dVar 2) (u := dCall E.p_l_has (dCons (dBin pIx (dVar 0) (dC (.int 3))) (dCons (dVar 1) (dCons (dVar 2) (dCons (dVar 3) (dCons (dVar 4) dNil))))))
      7 [(Rg.move p q x).pv, .int n, .int m, .int (i - p), .int (j - q), .str "move"] rfl rfl rfl rfl (Eq.trans ?_ (call_ok h)))
    · kernel_rfl
    · kernel_rfl
end Pl

set_option maxHeartbeats 4000000
/-! S3: regions are regions. -/
namespace Pl
open PySem PySem.Spec PyProof.Rows L2
theorem run_if_f {t : DD Bool} {a b : DS} (k : Nat) (ps : List PV) (h : t (st0 k ps) = .ok false (st0 k ps)) : runB k (sIf t a b) ps = runB k b ps := by
  unfold runB
  rw [show (ps.map (fun p => some (SV.val p)) ++ List.replicate (k - ps.length) none) = st0 k ps from rfl]
  simp [sIf, h, Res.toOut]
theorem run_if_t {t : DD Bool} {a b : DS} (k : Nat) (ps : List PV) (h : t (st0 k ps) = .ok true (st0 k ps)) : runB k (sIf t a b) ps = runB k a ps := by
  unfold runB
  rw [show (ps.map (fun p => some (SV.val p)) ++ List.replicate (k - ps.length) none) = st0 k ps from rfl]
  simp [sIf, h, Res.toOut]
theorem run_ret {d : DE} {p : PV} {ρ : Rho} (k : Nat) (ps : List PV) (h : d (st0 k ps) = .ok p ρ) : runB k (sRet d) ps = .ok p := by
  unfold runB
  rw [show (ps.map (fun p => some (SV.val p)) ++ List.replicate (k - ps.length) none) = st0 k ps from rfl]
  simp [sRet, h, Res.toOut]
theorem compL_all {g : Tg} {body : DE} {ρ : Rho} : ∀ {ps : List PV}, (∀ p ∈ ps, ∃ ρ1, g.set p ρ = some ρ1 ∧ ∃ ρ2, body ρ1 = .ok (.bl true) ρ2) → compL g tyesD body ρ ps = some (List.replicate ps.length (.bl true))
  | [], _ => rfl
  | p :: ps, h => by
    obtain ⟨ρ1, h1, ρ2, h2⟩ := h p List.mem_cons_self
    have ih := compL_all (ps := ps) fun q hq => h q (List.mem_cons_of_mem _ hq)
    unfold compL
    rw [h1]
    simp only [tyesD, h2, ih, Option.map_some, List.length_cons, List.replicate_succ]
theorem allBl_rep : ∀ n : Nat, allBl (List.replicate n (.bl true)) = some (List.replicate n true)
  | 0 => rfl
  | n + 1 => by
    simp only [List.replicate_succ, allBl, allBl_rep n, Option.map_some]
theorem comp_all {vs : List Nat} {g : Tg} {di : DD (List PV)} {body : DE} {ρ : Rho} {ps : List PV} (hd : di ρ = .ok ps ρ) (hl : ps.length ≤ LIM) (h : ∀ p ∈ ps, ∃ ρ1, g.set p (wipeR (valsOf ρ) vs) = some ρ1 ∧ ∃ ρ2, body ρ1 = .ok (.bl true) ρ2) :
    dFun fAll (dCons (dComp vs g di tyesD body) dNil) ρ = .ok (.bl true) ρ := by
  simp [dFun, dCons, dComp, dNil, hd, Res.bind, compL_all h, hl, fAll, ofO, allBl_rep]
theorem is_whole_t (e : Nat) {v lo hi : Int} (h1 : lo ≤ v) (h2 : v ≤ hi) : (env (e + 1)).p_is_whole [.int v, .int lo, .int hi] = .ok (.bl true) := by
  show runB 3 (d_is_whole (env e)) _ = _
  have c : dChain pLe pLe (dVar 1) (dVar 0) (dVar 2) (st0 3 [.int v, .int lo, .int hi]) = .ok (.bl true) (st0 3 [.int v, .int lo, .int hi]) := by
    simp [dChain, dVar, st0, Res.bind, ofO, pLe, h1, h2]
  refine Eq.trans ?_ (run_ret 3 [.int v, .int lo, .int hi] c)
  kernel_rfl
theorem numbers1 (e : Nat) {a : Int} (h1 : 0 ≤ a) (h2 : a ≤ 9) : (env (e + 2)).p_are_numbers [.tup [.str "a"], .tup [.int a]] = .ok (.bl true) := by
  show runB 4 (d_are_numbers (env (e + 1))) _ = _
  unfold d_are_numbers
  simp only [if_seq, nil_seq, ret_seq, seq_seq]
  have w := is_whole_t e h1 h2
  revert w
  generalize env (e + 1) = E
  intro w
  refine Eq.trans (run_if_f 4 [.tup [.str "a"], .tup [.int a]] (by kernel_rfl)) (run_ret 4 _ (comp_all (ps := [.tup [.str "a", .int a]]) (by kernel_rfl) (by simp [LIM]) ?_))
  intro p hp
  simp only [List.mem_cons, List.mem_nil_iff, or_false] at hp
  subst hp
  exact ⟨_, rfl, _, Eq.trans (by kernel_rfl) (call_ok (ρ := [some (.val (.tup [.str "a"])), some (.val (.tup [.int a])), some (.val (.str "a")), some (.val (.int a))]) w)⟩
theorem numbers2 (e : Nat) {a k : Int} (h1 : 0 ≤ a) (h2 : a ≤ 9) (h3 : 0 ≤ k) (h4 : k ≤ 6) : (env (e + 2)).p_are_numbers [.tup [.str "a", .str "k"], .tup [.int a, .int k]] = .ok (.bl true) := by
  show runB 4 (d_are_numbers (env (e + 1))) _ = _
  unfold d_are_numbers
  simp only [if_seq, nil_seq, ret_seq, seq_seq]
  have w := is_whole_t e h1 h2
  have w2 := is_whole_t e h3 h4
  revert w w2
  generalize env (e + 1) = E
  intro w w2
  refine Eq.trans (run_if_f 4 [.tup [.str "a", .str "k"], .tup [.int a, .int k]] (by kernel_rfl)) (run_ret 4 _ (comp_all (ps := [.tup [.str "a", .int a], .tup [.str "k", .int k]]) (by kernel_rfl) (by simp [LIM]) ?_))
  intro p hp
  simp only [List.mem_cons, List.mem_nil_iff, or_false] at hp
  rcases hp with rfl | rfl
  · exact ⟨_, rfl, _, Eq.trans (by kernel_rfl) (call_ok (ρ := [some (.val (.tup [.str "a", .str "k"])), some (.val (.tup [.int a, .int k])), some (.val (.str "a")), some (.val (.int a))]) w)⟩
  · exact ⟨_, rfl, _, Eq.trans (by kernel_rfl) (call_ok (ρ := [some (.val (.tup [.str "a", .str "k"])), some (.val (.tup [.int a, .int k])), some (.val (.str "k")), some (.val (.int k))]) w2)⟩

theorem nested_leaf (r : Rg) (hl : leaf r = true) (ok : r.Ok) (e k : Nat) : (env (e + 3)).p_is_nested [r.pv, .int ((k : Int) + 1)] = .ok (.bl true) := by
  show runB 3 (d_is_nested (env (e + 2))) _ = _
  unfold d_is_nested
  simp only [if_seq, nil_seq, ret_seq, seq_seq]
  have n0 : (env (e + 2)).p_are_numbers [.tup [], .tup []] = .ok (.bl true) := by kernel_rfl
  have n1 : ∀ a : Int, 0 ≤ a → a ≤ 9 → (env (e + 2)).p_are_numbers [.tup [.str "a"], .tup [.int a]] = .ok (.bl true) := fun a => numbers1 e
  have n2 : ∀ a k : Int, 0 ≤ a → a ≤ 9 → 0 ≤ k → k ≤ 6 → (env (e + 2)).p_are_numbers [.tup [.str "a", .str "k"], .tup [.int a, .int k]] = .ok (.bl true) := fun a k => numbers2 e
  revert n0 n1 n2
  generalize env (e + 2) = E
  intro n0 n1 n2
  cases r with
  | all => exact Eq.trans (by kernel_rfl) (run_call n0 3 [(Rg.all).pv, .int ((k : Int) + 1)])
  | none => exact Eq.trans (by kernel_rfl) (run_call n0 3 [(Rg.none).pv, .int ((k : Int) + 1)])
  | high a => exact Eq.trans (by kernel_rfl) (run_call (n1 a ok.1 ok.2) 3 [(Rg.high a).pv, .int ((k : Int) + 1)])
  | wide a => exact Eq.trans (by kernel_rfl) (run_call (n1 a ok.1 ok.2) 3 [(Rg.wide a).pv, .int ((k : Int) + 1)])
  | border a => exact Eq.trans (by kernel_rfl) (run_call (n1 a ok.1 ok.2) 3 [(Rg.border a).pv, .int ((k : Int) + 1)])
  | rows a k2 => exact Eq.trans (by kernel_rfl) (run_call (n2 a k2 ok.1.1 ok.1.2 ok.2.1 ok.2.2) 3 [(Rg.rows a k2).pv, .int ((k : Int) + 1)])
  | rowsUp a k2 => exact Eq.trans (by kernel_rfl) (run_call (n2 a k2 ok.1.1 ok.1.2 ok.2.1 ok.2.2) 3 [(Rg.rowsUp a k2).pv, .int ((k : Int) + 1)])
  | cols a k2 => exact Eq.trans (by kernel_rfl) (run_call (n2 a k2 ok.1.1 ok.1.2 ok.2.1 ok.2.2) 3 [(Rg.cols a k2).pv, .int ((k : Int) + 1)])
  | colsBack a k2 => exact Eq.trans (by kernel_rfl) (run_call (n2 a k2 ok.1.1 ok.1.2 ok.2.1 ok.2.2) 3 [(Rg.colsBack a k2).pv, .int ((k : Int) + 1)])
  | _ => cases hl
theorem sub1 (k : Nat) : ((k : Int) + 1 - 1) = (k : Int) := by omega
theorem is_nested : ∀ (r : Rg) (ok : r.Ok) (e k : Nat), r.dep ≤ k → (env (e + r.dep + 2)).p_is_nested [r.pv, .int (k : Int)] = .ok (.bl true) := by
  intro r
  have base : ∀ (r : Rg) (hl : leaf r = true) (ok : r.Ok) (e k : Nat), 1 ≤ k → (env (e + 1 + 2)).p_is_nested [r.pv, .int (k : Int)] = .ok (.bl true) := by
    intro r hl ok e k h
    obtain ⟨k, rfl⟩ : ∃ j, k = j + 1 := ⟨k - 1, by omega⟩
    exact nested_leaf r hl ok e k
  induction r with
  | all => intro ok e k hk; exact base _ rfl ok e k hk
  | none => intro ok e k hk; exact base _ rfl ok e k hk
  | high a => intro ok e k hk; exact base _ rfl ok e k hk
  | wide a => intro ok e k hk; exact base _ rfl ok e k hk
  | border a => intro ok e k hk; exact base _ rfl ok e k hk
  | rows a k2 => intro ok e k hk; exact base _ rfl ok e k hk
  | rowsUp a k2 => intro ok e k hk; exact base _ rfl ok e k hk
  | cols a k2 => intro ok e k hk; exact base _ rfl ok e k hk
  | colsBack a k2 => intro ok e k hk; exact base _ rfl ok e k hk
  | and x y ihx ihy =>
    intro ok e k hk
    obtain ⟨k, rfl⟩ : ∃ j, k = j + 1 := ⟨k - 1, by simp only [Rg.dep] at hk; omega⟩
    simp only [Rg.dep] at hk
    have h1 := ihx ok.1 (e + (max x.dep y.dep - x.dep)) k (by have := Nat.le_max_left x.dep y.dep; omega)
    have h2 := ihy ok.2 (e + (max x.dep y.dep - y.dep)) k (by have := Nat.le_max_right x.dep y.dep; omega)
    have e1 : e + (max x.dep y.dep - x.dep) + x.dep + 2 = e + max x.dep y.dep + 2 := by have := Nat.le_max_left x.dep y.dep; omega
    have e2 : e + (max x.dep y.dep - y.dep) + y.dep + 2 = e + max x.dep y.dep + 2 := by have := Nat.le_max_right x.dep y.dep; omega
    rw [e1, ← sub1 k] at h1
    rw [e2, ← sub1 k] at h2
    show runB 3 (d_is_nested (env (e + (max x.dep y.dep) + 2))) _ = _
    unfold d_is_nested
    simp only [if_seq, nil_seq, ret_seq, seq_seq]
    revert h1 h2
    generalize env (e + (max x.dep y.dep) + 2) = E
    intro h1 h2
    refine Eq.trans ?_ (run_ret 3 [(Rg.and x y).pv, .int ((k : Int) + 1)] (comp_all (vs := [2]) (g := .one 2) (di := dItems (dSl (dVar 0) (some (dC (.int 1))) none)) (body := dCall E.p_is_nested (dCons (dVar 2) (dCons (dBin pSub (dVar 1) (dC (.int 1))) dNil))) (ps := [x.pv, y.pv]) ?_ (by simp [LIM]) ?_))
    · kernel_rfl
    · kernel_rfl
    · intro p hp
      simp only [List.mem_cons, List.mem_nil_iff, or_false] at hp
      rcases hp with rfl | rfl
      · exact ⟨_, rfl, _, Eq.trans (by kernel_rfl) (call_ok (ρ := [some (.val (Rg.and x y).pv), some (.val (.int ((k : Int) + 1))), some (.val x.pv)]) h1)⟩
      · exact ⟨_, rfl, _, Eq.trans (by kernel_rfl) (call_ok (ρ := [some (.val (Rg.and x y).pv), some (.val (.int ((k : Int) + 1))), some (.val y.pv)]) h2)⟩
  | or x y ihx ihy =>
    intro ok e k hk
    obtain ⟨k, rfl⟩ : ∃ j, k = j + 1 := ⟨k - 1, by simp only [Rg.dep] at hk; omega⟩
    simp only [Rg.dep] at hk
    have h1 := ihx ok.1 (e + (max x.dep y.dep - x.dep)) k (by have := Nat.le_max_left x.dep y.dep; omega)
    have h2 := ihy ok.2 (e + (max x.dep y.dep - y.dep)) k (by have := Nat.le_max_right x.dep y.dep; omega)
    have e1 : e + (max x.dep y.dep - x.dep) + x.dep + 2 = e + max x.dep y.dep + 2 := by have := Nat.le_max_left x.dep y.dep; omega
    have e2 : e + (max x.dep y.dep - y.dep) + y.dep + 2 = e + max x.dep y.dep + 2 := by have := Nat.le_max_right x.dep y.dep; omega
    rw [e1, ← sub1 k] at h1
    rw [e2, ← sub1 k] at h2
    show runB 3 (d_is_nested (env (e + (max x.dep y.dep) + 2))) _ = _
    unfold d_is_nested
    simp only [if_seq, nil_seq, ret_seq, seq_seq]
    revert h1 h2
    generalize env (e + (max x.dep y.dep) + 2) = E
    intro h1 h2
    refine Eq.trans ?_ (run_ret 3 [(Rg.or x y).pv, .int ((k : Int) + 1)] (comp_all (vs := [2]) (g := .one 2) (di := dItems (dSl (dVar 0) (some (dC (.int 1))) none)) (body := dCall E.p_is_nested (dCons (dVar 2) (dCons (dBin pSub (dVar 1) (dC (.int 1))) dNil))) (ps := [x.pv, y.pv]) ?_ (by simp [LIM]) ?_))
    · kernel_rfl
    · kernel_rfl
    · intro p hp
      simp only [List.mem_cons, List.mem_nil_iff, or_false] at hp
      rcases hp with rfl | rfl
      · exact ⟨_, rfl, _, Eq.trans (by kernel_rfl) (call_ok (ρ := [some (.val (Rg.or x y).pv), some (.val (.int ((k : Int) + 1))), some (.val x.pv)]) h1)⟩
      · exact ⟨_, rfl, _, Eq.trans (by kernel_rfl) (call_ok (ρ := [some (.val (Rg.or x y).pv), some (.val (.int ((k : Int) + 1))), some (.val y.pv)]) h2)⟩
  | not x ih =>
    intro ok e k hk
    obtain ⟨k, rfl⟩ : ∃ j, k = j + 1 := ⟨k - 1, by simp only [Rg.dep] at hk; omega⟩
    simp only [Rg.dep] at hk
    have h1 := ih ok e k (by omega)
    rw [← sub1 k] at h1
    show runB 3 (d_is_nested (env (e + (x.dep) + 2))) _ = _
    unfold d_is_nested
    simp only [if_seq, nil_seq, ret_seq, seq_seq]
    revert h1
    generalize env (e + (x.dep) + 2) = E
    intro h1
    refine Eq.trans ?_ (run_ret 3 [(Rg.not x).pv, .int ((k : Int) + 1)] (comp_all (vs := [2]) (g := .one 2) (di := dItems (dSl (dVar 0) (some (dC (.int 1))) none)) (body := dCall E.p_is_nested (dCons (dVar 2) (dCons (dBin pSub (dVar 1) (dC (.int 1))) dNil))) (ps := [x.pv]) ?_ (by simp [LIM]) ?_))
    · kernel_rfl
    · kernel_rfl
    · intro p hp
      simp only [List.mem_cons, List.mem_nil_iff, or_false] at hp
      subst hp
      exact ⟨_, rfl, _, Eq.trans (by kernel_rfl) (call_ok (ρ := [some (.val (Rg.not x).pv), some (.val (.int ((k : Int) + 1))), some (.val x.pv)]) h1)⟩
  | mirror x ih =>
    intro ok e k hk
    obtain ⟨k, rfl⟩ : ∃ j, k = j + 1 := ⟨k - 1, by simp only [Rg.dep] at hk; omega⟩
    simp only [Rg.dep] at hk
    have h1 := ih ok e k (by omega)
    rw [← sub1 k] at h1
    show runB 3 (d_is_nested (env (e + (x.dep) + 2))) _ = _
    unfold d_is_nested
    simp only [if_seq, nil_seq, ret_seq, seq_seq]
    revert h1
    generalize env (e + (x.dep) + 2) = E
    intro h1
    refine Eq.trans ?_ (run_ret 3 [(Rg.mirror x).pv, .int ((k : Int) + 1)] (comp_all (vs := [2]) (g := .one 2) (di := dItems (dSl (dVar 0) (some (dC (.int 1))) none)) (body := dCall E.p_is_nested (dCons (dVar 2) (dCons (dBin pSub (dVar 1) (dC (.int 1))) dNil))) (ps := [x.pv]) ?_ (by simp [LIM]) ?_))
    · kernel_rfl
    · kernel_rfl
    · intro p hp
      simp only [List.mem_cons, List.mem_nil_iff, or_false] at hp
      subst hp
      exact ⟨_, rfl, _, Eq.trans (by kernel_rfl) (call_ok (ρ := [some (.val (Rg.mirror x).pv), some (.val (.int ((k : Int) + 1))), some (.val x.pv)]) h1)⟩
  | flip x ih =>
    intro ok e k hk
    obtain ⟨k, rfl⟩ : ∃ j, k = j + 1 := ⟨k - 1, by simp only [Rg.dep] at hk; omega⟩
    simp only [Rg.dep] at hk
    have h1 := ih ok e k (by omega)
    rw [← sub1 k] at h1
    show runB 3 (d_is_nested (env (e + (x.dep) + 2))) _ = _
    unfold d_is_nested
    simp only [if_seq, nil_seq, ret_seq, seq_seq]
    revert h1
    generalize env (e + (x.dep) + 2) = E
    intro h1
    refine Eq.trans ?_ (run_ret 3 [(Rg.flip x).pv, .int ((k : Int) + 1)] (comp_all (vs := [2]) (g := .one 2) (di := dItems (dSl (dVar 0) (some (dC (.int 1))) none)) (body := dCall E.p_is_nested (dCons (dVar 2) (dCons (dBin pSub (dVar 1) (dC (.int 1))) dNil))) (ps := [x.pv]) ?_ (by simp [LIM]) ?_))
    · kernel_rfl
    · kernel_rfl
    · intro p hp
      simp only [List.mem_cons, List.mem_nil_iff, or_false] at hp
      subst hp
      exact ⟨_, rfl, _, Eq.trans (by kernel_rfl) (call_ok (ρ := [some (.val (Rg.flip x).pv), some (.val (.int ((k : Int) + 1))), some (.val x.pv)]) h1)⟩
  | turn x ih =>
    intro ok e k hk
    obtain ⟨k, rfl⟩ : ∃ j, k = j + 1 := ⟨k - 1, by simp only [Rg.dep] at hk; omega⟩
    simp only [Rg.dep] at hk
    have h1 := ih ok e k (by omega)
    rw [← sub1 k] at h1
    show runB 3 (d_is_nested (env (e + (x.dep) + 2))) _ = _
    unfold d_is_nested
    simp only [if_seq, nil_seq, ret_seq, seq_seq]
    revert h1
    generalize env (e + (x.dep) + 2) = E
    intro h1
    refine Eq.trans ?_ (run_ret 3 [(Rg.turn x).pv, .int ((k : Int) + 1)] (comp_all (vs := [2]) (g := .one 2) (di := dItems (dSl (dVar 0) (some (dC (.int 1))) none)) (body := dCall E.p_is_nested (dCons (dVar 2) (dCons (dBin pSub (dVar 1) (dC (.int 1))) dNil))) (ps := [x.pv]) ?_ (by simp [LIM]) ?_))
    · kernel_rfl
    · kernel_rfl
    · intro p hp
      simp only [List.mem_cons, List.mem_nil_iff, or_false] at hp
      subst hp
      exact ⟨_, rfl, _, Eq.trans (by kernel_rfl) (call_ok (ρ := [some (.val (Rg.turn x).pv), some (.val (.int ((k : Int) + 1))), some (.val x.pv)]) h1)⟩
  | move p q x ih =>
    intro ok e k hk
    obtain ⟨k, rfl⟩ : ∃ j, k = j + 1 := ⟨k - 1, by simp only [Rg.dep] at hk; omega⟩
    simp only [Rg.dep] at hk
    have h1 := ih ok.2.2 e k (by omega)
    rw [← sub1 k] at h1
    have w1 := is_whole_t (e + x.dep + 1) ok.1.1 ok.1.2
    have w2 := is_whole_t (e + x.dep + 1) ok.2.1.1 ok.2.1.2
    show runB 3 (d_is_nested (env (e + x.dep + 2))) _ = _
    unfold d_is_nested
    simp only [if_seq, nil_seq, ret_seq, seq_seq]
    revert h1 w1 w2
    rw [show e + x.dep + 1 + 1 = e + x.dep + 2 from rfl]
    generalize env (e + x.dep + 2) = E
    intro h1 w1 w2
    have c := comp_all (ρ := st0 3 [(Rg.move p q x).pv, .int ((k : Int) + 1)]) (vs := [2]) (g := .one 2) (di := dItems (dSl (dVar 0) (some (dC (.int 1))) (some (dC (.int 3))))) (body := dCall E.p_is_whole (dCons (dVar 2) (dCons (dUn pNeg (dC (.int 6))) (dCons (dC (.int 6)) dNil)))) (ps := [.int p, .int q]) (by kernel_rfl) (by simp [LIM]) (by
      intro z hz
      simp only [List.mem_cons, List.mem_nil_iff, or_false] at hz
      rcases hz with rfl | rfl
      · exact ⟨_, rfl, _, Eq.trans (by kernel_rfl) (call_ok (ρ := [some (.val (Rg.move p q x).pv), some (.val (.int ((k : Int) + 1))), some (.val (.int p))]) w1)⟩
      · exact ⟨_, rfl, _, Eq.trans (by kernel_rfl) (call_ok (ρ := [some (.val (Rg.move p q x).pv), some (.val (.int ((k : Int) + 1))), some (.val (.int q))]) w2)⟩)
    have c2 : dNot (dTru (dFun fAll (dCons (dComp [2] (.one 2) (dItems (dSl (dVar 0) (some (dC (.int 1))) (some (dC (.int 3))))) tyesD (dCall E.p_is_whole (dCons (dVar 2) (dCons (dUn pNeg (dC (.int 6))) (dCons (dC (.int 6)) dNil))))) dNil))) (st0 3 [(Rg.move p q x).pv, .int ((k : Int) + 1)]) = .ok false (st0 3 [(Rg.move p q x).pv, .int ((k : Int) + 1)]) := by
      simp [dNot, dTru, c, Res.bind, truth, ofO]
    refine Eq.trans ?_ (Eq.trans (run_if_f (t := dNot (dTru (dFun fAll (dCons (dComp [2] (.one 2) (dItems (dSl (dVar 0) (some (dC (.int 1))) (some (dC (.int 3))))) tyesD (dCall E.p_is_whole (dCons (dVar 2) (dCons (dUn pNeg (dC (.int 6))) (dCons (dC (.int 6)) dNil))))) dNil))))
      (a := sRet (dC (.bl false))) (b := sRet (dCall E.p_is_nested (dCons (dBin pIx (dVar 0) (dC (.int 3))) (dCons (dBin pSub (dVar 1) (dC (.int 1))) dNil)))) 3 [(Rg.move p q x).pv, .int ((k : Int) + 1)] c2) (Eq.trans ?_ (run_call h1 3 [(Rg.move p q x).pv, .int ((k : Int) + 1)])))
    · kernel_rfl
    · kernel_rfl
theorem is_region (r : Rg) (ok : r.Ok) (e : Nat) (h : r.dep ≤ 8) : (env (e + r.dep + 3)).p_is_region [r.pv] = .ok (.bl true) := by
  show runB 1 (d_is_region (env (e + r.dep + 2))) _ = _
  have h1 := is_nested r ok e 8 h
  revert h1
  generalize env (e + r.dep + 2) = E
  intro h1
  exact Eq.trans (by kernel_rfl) (run_call h1 1 [r.pv])
end Pl

set_option maxHeartbeats 4000000
/-! S4: the checks; has. -/
namespace Pl
open PySem PySem.Spec PyProof.Rows L2
theorem run_expr {d : DE} {t : DS} {x : PV} (k : Nat) (ps : List PV) (h : d (st0 k ps) = .ok x (st0 k ps)) : runB k (sSeq (sExpr d) t) ps = runB k t ps := by
  unfold runB
  rw [show (ps.map (fun p => some (SV.val p)) ++ List.replicate (k - ps.length) none) = st0 k ps from rfl]
  simp [sSeq, sExpr, h, Res.toOut, Out.thn]
theorem run_expr_x {d : DE} {t : DS} {c : Nat} {as : List PV} {ρ : Rho} (k : Nat) (ps : List PV) (h : d (st0 k ps) = .exc c as ρ) : runB k (sSeq (sExpr d) t) ps = .exc c as := by
  unfold runB
  rw [show (ps.map (fun p => some (SV.val p)) ++ List.replicate (k - ps.length) none) = st0 k ps from rfl]
  simp [sSeq, sExpr, h, Res.toOut, Out.thn]
theorem call_exc {f : List PV → FR} {xs as : List PV} {c : Nat} {ρ : Rho} (h : f xs = .exc c as) : dCall f (dVs xs) ρ = .exc c as ρ := by
  simp [dCall, dVs, Res.bind, h]
theorem notor_f {c1 c2 : DE} {ρ : Rho} (h1 : c1 ρ = .ok (.bl true) ρ) (h2 : c2 ρ = .ok (.bl true) ρ) : dOr (dNot (dTru c1)) (dNot (dTru c2)) ρ = .ok false ρ := by
  simp [dOr, dNot, dTru, h1, h2, Res.bind, truth, ofO]
theorem not_f {c1 : DE} {ρ : Rho} (h1 : c1 ρ = .ok (.bl true) ρ) : dNot (dTru c1) ρ = .ok false ρ := by
  simp [dNot, dTru, h1, Res.bind, truth, ofO]
theorem is_number_t (e : Nat) {v lo hi : Int} (h1 : lo ≤ v) (h2 : v < hi) : (env (e + 1)).p_is_number [.int v, .int lo, .int hi] = .ok (.bl true) := by
  show runB 3 (d_is_number (env e)) _ = _
  have c : dChain pLe pLt (dVar 1) (dVar 0) (dVar 2) (st0 3 [.int v, .int lo, .int hi]) = .ok (.bl true) (st0 3 [.int v, .int lo, .int hi]) := by
    simp [dChain, dVar, st0, Res.bind, ofO, pLe, pLt, h1, h2]
  refine Eq.trans ?_ (run_ret 3 [.int v, .int lo, .int hi] c)
  kernel_rfl
theorem check_region (r : Rg) (ok : r.Ok) (e : Nat) (h : r.dep ≤ 8) : (env (e + r.dep + 4)).p_check_region [r.pv] = .ok .non := by
  show runB 1 (d_check_region (env (e + r.dep + 3))) _ = _
  have h1 := is_region r ok e h
  revert h1
  generalize env (e + r.dep + 3) = E
  intro h1
  exact Eq.trans (run_if_f 1 [r.pv] (not_f (Eq.trans (by kernel_rfl) (call_ok h1)))) (by kernel_rfl)
theorem check_sheet (e : Nat) {n m : Int} (h1 : 1 ≤ n) (h2 : n < 10000000000000000000000000000000000000000) (h3 : 1 ≤ m) (h4 : m < 10000000000000000000000000000000000000000) : (env (e + 2)).p_check_sheet [.int n, .int m] = .ok .non := by
  show runB 2 (d_check_sheet (env (e + 1))) _ = _
  have w1 := is_number_t e h1 h2
  have w2 := is_number_t e h3 h4
  revert w1 w2
  generalize env (e + 1) = E
  intro w1 w2
  exact Eq.trans (run_if_f 2 [.int n, .int m] (notor_f (Eq.trans (by kernel_rfl) (call_ok w1)) (Eq.trans (by kernel_rfl) (call_ok w2)))) (by kernel_rfl)
theorem check_small (e : Nat) {n m : Int} (h1 : 1 ≤ n) (h2 : n < 61) (h3 : 1 ≤ m) (h4 : m < 61) : (env (e + 2)).p_check_small [.int n, .int m] = .ok .non := by
  show runB 2 (d_check_small (env (e + 1))) _ = _
  have w1 := is_number_t e h1 h2
  have w2 := is_number_t e h3 h4
  revert w1 w2
  generalize env (e + 1) = E
  intro w1 w2
  exact Eq.trans (run_if_f 2 [.int n, .int m] (notor_f (Eq.trans (by kernel_rfl) (call_ok w1)) (Eq.trans (by kernel_rfl) (call_ok w2)))) (by kernel_rfl)
theorem check_cell (e : Nat) {n m i j : Int} (h1 : 1 ≤ n) (h2 : n < 10000000000000000000000000000000000000000) (h3 : 1 ≤ m) (h4 : m < 10000000000000000000000000000000000000000) (h5 : 0 ≤ i) (h6 : i < n) (h7 : 0 ≤ j) (h8 : j < m) :
    (env (e + 3)).p_check_cell [.int n, .int m, .int i, .int j] = .ok .non := by
  show runB 4 (d_check_cell (env (e + 2))) _ = _
  have w0 := check_sheet e h1 h2 h3 h4
  have w1 := is_number_t (e + 1) h5 h6
  have w2 := is_number_t (e + 1) h7 h8
  revert w0 w1 w2
  rw [show e + 1 + 1 = e + 2 from rfl]
  generalize env (e + 2) = E
  intro w0 w1 w2
  refine Eq.trans (run_expr 4 [.int n, .int m, .int i, .int j] (Eq.trans ?_ (call_ok w0))) (Eq.trans (run_if_f 4 [.int n, .int m, .int i, .int j] (notor_f (Eq.trans ?_ (call_ok w1)) (Eq.trans ?_ (call_ok w2)))) ?_)
  · kernel_rfl
  · kernel_rfl
  · kernel_rfl
  · kernel_rfl
theorem has_ (r : Rg) (ok : r.Ok) (h : r.dep ≤ 8) (e : Nat) {n m i j : Int} (h1 : 1 ≤ n) (h2 : n < 10000000000000000000000000000000000000000) (h3 : 1 ≤ m) (h4 : m < 10000000000000000000000000000000000000000) (h5 : 0 ≤ i) (h6 : i < n) (h7 : 0 ≤ j) (h8 : j < m) :
    (env (e + 25)).p_has [r.pv, .int n, .int m, .int i, .int j] = .ok (.bl (r.has n m i j)) := by
  show runB 5 (d_has (env (e + 24))) _ = _
  have w0 := check_region r ok (e + 20 - r.dep) h
  rw [show e + 20 - r.dep + r.dep + 4 = e + 24 from by omega] at w0
  have w1 := check_cell (e + 21) h1 h2 h3 h4 h5 h6 h7 h8
  have w2 := cell_has r ok (e + 24 - 3 * r.dep) n m i j
  rw [show e + 24 - 3 * r.dep + 3 * r.dep = e + 24 from by omega] at w2
  revert w0 w1 w2
  rw [show e + 21 + 3 = e + 24 from rfl]
  generalize env (e + 24) = E
  intro w0 w1 w2
  refine Eq.trans (run_expr 5 [r.pv, .int n, .int m, .int i, .int j] (Eq.trans ?_ (call_ok w0))) (Eq.trans (run_expr 5 [r.pv, .int n, .int m, .int i, .int j] (Eq.trans ?_ (call_ok w1))) (Eq.trans ?_ (run_call w2 5 [r.pv, .int n, .int m, .int i, .int j])))
  · kernel_rfl
  · kernel_rfl
  · kernel_rfl
/-- a cell that is none -/
theorem has_x (r : Rg) (ok : r.Ok) (h : r.dep ≤ 8) (e : Nat) {n m i j : PV} (w1 : (env (e + 24)).p_check_cell [n, m, i, j] = .exc 2 []) : (env (e + 25)).p_has [r.pv, n, m, i, j] = .exc 2 [] := by
  show runB 5 (d_has (env (e + 24))) _ = _
  have w0 := check_region r ok (e + 20 - r.dep) h
  rw [show e + 20 - r.dep + r.dep + 4 = e + 24 from by omega] at w0
  revert w0 w1
  generalize env (e + 24) = E
  intro w1 w0
  refine Eq.trans (run_expr 5 [r.pv, n, m, i, j] (Eq.trans ?_ (call_ok w0))) (run_expr_x (ρ := st0 5 [r.pv, n, m, i, j]) 5 [r.pv, n, m, i, j] (Eq.trans ?_ (call_exc w1)))
  · kernel_rfl
  · kernel_rfl
theorem refused_x (e : Nat) {r n m i j : PV} (w : (env (e + 25)).p_has [r, n, m, i, j] = .exc 2 []) : (env (e + 26)).p_l_refused [r, n, m, i, j] = .ok (.str "sheet") := by
  show runB 6 (d_l_refused (env (e + 25))) _ = _
  revert w
  generalize env (e + 25) = E
  intro w
  refine Eq.trans (run_set 6 [r, n, m, i, j] [r, n, m, i, j, .non] (by kernel_rfl) rfl) ?_
  have c : sExpr (dCall E.p_has (dCons (dVar 0) (dCons (dVar 1) (dCons (dVar 2) (dCons (dVar 3) (dCons (dVar 4) dNil)))))) (st0 6 [r, n, m, i, j, .non]) = .exc 2 [] (st0 6 [r, n, m, i, j, .non]) := by
    have c0 : dCall E.p_has (dCons (dVar 0) (dCons (dVar 1) (dCons (dVar 2) (dCons (dVar 3) (dCons (dVar 4) dNil))))) (st0 6 [r, n, m, i, j, .non]) = .exc 2 [] (st0 6 [r, n, m, i, j, .non]) := Eq.trans (by kernel_rfl) (call_exc w)
    simp only [sExpr, c0, Res.toOut]
  have c2 : sTry [1, 2] SUB (sExpr (dCall E.p_has (dCons (dVar 0) (dCons (dVar 1) (dCons (dVar 2) (dCons (dVar 3) (dCons (dVar 4) dNil))))))) [(1, (sSet 5 (dC (.str "region")))), (2, (sSet 5 (dC (.str "sheet"))))] (st0 6 [r, n, m, i, j, .non]) = .nx (st0 6 [r, n, m, i, j, .str "sheet"]) := by
    unfold sTry
    rw [c]
    rfl
  show runB 6 (sSeq (sTry [1, 2] SUB (sExpr (dCall E.p_has (dCons (dVar 0) (dCons (dVar 1) (dCons (dVar 2) (dCons (dVar 3) (dCons (dVar 4) dNil))))))) [(1, (sSet 5 (dC (.str "region")))), (2, (sSet 5 (dC (.str "sheet"))))]) (sRet (dVar 5))) [r, n, m, i, j, .non] = _
  unfold runB
  rw [show ([r, n, m, i, j, .non].map (fun p => some (SV.val p)) ++ List.replicate (6 - [r, n, m, i, j, PV.non].length) none) = st0 6 [r, n, m, i, j, .non] from rfl]
  simp only [sSeq, c2, Out.thn]
  rfl
end Pl

set_option maxHeartbeats 4000000
/-! S5: the draws. -/
namespace Pl
open PySem PySem.Spec PyProof.Rows L2
def Sd (ns : List Int) (p : Nat) (a b : Int) : PV := .lst [.lst (ns.map PV.int), .int (p : Int), .int a, .int b]
/-- a state of the draws -/
def IsSd (ns : List Int) (c : PV) : Prop := ∃ (p : Nat) (a b : Int), 0 ≤ a ∧ c = Sd ns p a b
theorem if_tt {t : DD Bool} {a b : DS} {ρ : Rho} {k : Bool} (h : t ρ = .ok k ρ) (hk : k = true) : sIf t a b ρ = a ρ := by
  subst hk
  simp [sIf, h, Res.toOut]
theorem if_ff {t : DD Bool} {a b : DS} {ρ : Rho} {k : Bool} (h : t ρ = .ok k ρ) (hk : k = false) : sIf t a b ρ = b ρ := by
  subst hk
  simp [sIf, h, Res.toOut]
theorem seq_nx {d t : DS} {ρ ρ' : Rho} (h : d ρ = .nx ρ') : sSeq d t ρ = t ρ' := by
  simp [sSeq, h, Out.thn]
theorem seq_rt {d t : DS} {ρ ρ' : Rho} {p : PV} (h : d ρ = .rt p ρ') : sSeq d t ρ = .rt p ρ' := by
  simp [sSeq, h, Out.thn]
theorem set_nx {d : DE} {i : Nat} {ρ ρ' : Rho} {x : PV} (h : d ρ = .ok x ρ') : sSet i d ρ = .nx (ρ'.set i (some (.val x))) := by
  simp [sSet, h, Res.toOut]
theorem at_ints (ns : List Int) (p : Nat) (h : p < ns.length) : pIx (.lst (ns.map PV.int)) (.int (p : Int)) = some (.int ns[p]) := by
  have e : ((p : Int) < (ns.length : Int)) := by omega
  simp [pIx, atI, ixN, e, h]
def R4 (c : PV) (size : Int) (x y : Option SV) : Rho := [some (.inp c), some (.val (.int size)), x, y]
theorem draw_ok (ns : List Int) {c : PV} (hc : IsSd ns c) (e : Nat) {size : Int} (hs : 0 < size) (hs2 : size < 1000) : ∃ r c', (env (e + 1)).i_l_draw c [.int size] = .ok (.int r) c' ∧ IsSd ns c' ∧ 0 ≤ r ∧ r < size := by
  obtain ⟨p, a, b, ha, rfl⟩ := hc
  show ∃ r c', runI 4 (d_l_draw (env e)) _ _ = _ ∧ _
  generalize env e = E
  -- the state behind the first half
  have h1 : ∃ p' a' b' x', 0 ≤ a' ∧ (sIf (dAsB (dBin pEq (dIxM 0 (dC (.int 2))) (dC (.int 0)))) (sIf (dAsB (dBin pLt (dIxM 0 (dC (.int 1))) (dFun fLen (dCons (dIxM 0 (dC (.int 0))) dNil)))) (sSeq (sSet 2 (dBin pIx (dIxM 0 (dC (.int 0))) (dIxM 0 (dC (.int 1)))))
    (sSeq (sPut 0 (dBin pAdd (dIxM 0 (dC (.int 1))) (dC (.int 1))) (dC (.int 1)))
    (sIf (dAsB (dBin pGe (dVar 2) (dBin pPow (dC (.int 10)) (dC (.int 18))))) (sPut 0 (dVar 2) (dC (.int 2))) (sPut 0 (dBin pMod (dFun fInt (dCons (dBin pAdd (dBin pAdd (dBin pMul (dIxM 0 (dC (.int 3))) (dC (.int 48271))) (dBin pMul (dVar 2) (dC (.int 69621)))) (dC (.int 11))) dNil)) (dC (.int 2147483647))) (dC (.int 3)))))) (sPut 0 (dBin pMod (dFun fInt (dCons (dBin pAdd (dBin pMul (dIxM 0 (dC (.int 3))) (dC (.int 48271))) (dC (.int 7))) dNil)) (dC (.int 2147483647))) (dC (.int 3)))) sNil) (R4 (Sd ns p a b) size none none) = .nx (R4 (Sd ns p' a' b') size x' none) := by
    by_cases h0 : a = 0
    · subst h0
      by_cases hp : p < ns.length
      · have c3 : decide (((p : Int)) < ((ns.map PV.int).length : Int)) = true := by simp; exact hp
        have k : ∀ {ρ : Rho}, ofO (pIx (.lst (ns.map PV.int)) (.int (p : Int))) ρ = .ok (.int ns[p]) ρ := by
          intro ρ
          rw [at_ints ns p hp]
          rfl
        have s1 : sSet 2 (dBin pIx (dIxM 0 (dC (.int 0))) (dIxM 0 (dC (.int 1)))) (R4 (Sd ns p 0 b) size none none) = .nx (R4 (Sd ns p 0 b) size (some (.val (.int ns[p]))) none) := by
          refine Eq.trans (set_nx (ρ' := R4 (Sd ns p 0 b) size none none) (x := .int ns[p]) (Eq.trans ?_ k)) rfl
          kernel_rfl
        generalize ns[p] = z at *
        have m1 : ∀ b : Int, pMul (.int b) (.int 48271) = some (.int (b * 48271)) := fun b => by simp [pMul]
        have m2 : ∀ b : Int, pMul (.int b) (.int 69621) = some (.int (b * 69621)) := fun b => by simp [pMul]
        by_cases hz : (1000000000000000000 : Int) ≤ z
        · refine ⟨p + 1, z, b, some (.val (.int z)), by omega, ?_⟩
          refine Eq.trans (if_tt (k := decide ((0:Int) = 0)) (by kernel_rfl) rfl) ?_
          refine Eq.trans (if_tt (k := decide (((p : Int)) < ((ns.map PV.int).length : Int))) (by kernel_rfl) c3) ?_
          refine Eq.trans (seq_nx s1) ?_
          refine Eq.trans (seq_nx (ρ' := R4 (Sd ns (p + 1) 0 b) size (some (.val (.int z))) none) (by kernel_rfl)) ?_
          refine Eq.trans (if_tt (k := decide ((1000000000000000000 : Int) ≤ z)) (by kernel_rfl) (decide_eq_true hz)) ?_
          kernel_rfl
        · refine ⟨p + 1, 0, (b * 48271 + z * 69621 + 11) % 2147483647, some (.val (.int z)), by omega, ?_⟩
          refine Eq.trans (if_tt (k := decide ((0:Int) = 0)) (by kernel_rfl) rfl) ?_
          refine Eq.trans (if_tt (k := decide (((p : Int)) < ((ns.map PV.int).length : Int))) (by kernel_rfl) c3) ?_
          refine Eq.trans (seq_nx s1) ?_
          refine Eq.trans (seq_nx (ρ' := R4 (Sd ns (p + 1) 0 b) size (some (.val (.int z))) none) (by kernel_rfl)) ?_
          refine Eq.trans (if_ff (k := decide ((1000000000000000000 : Int) ≤ z)) (by kernel_rfl) (decide_eq_false hz)) ?_
          simp [sPut, dBin, dFun, dCons, dNil, dIxM, dC, dVar, R4, Sd, isLstM, slotM, putM, Res.bind, Res.toOut, ofO, pIx, atI, ixN, m1, m2, pAdd, pMod, fInt]
      · have c3 : decide (((p : Int)) < ((ns.map PV.int).length : Int)) = false := by simp; omega
        have m1 : ∀ b : Int, pMul (.int b) (.int 48271) = some (.int (b * 48271)) := fun b => by simp [pMul]
        refine ⟨p, 0, (b * 48271 + 7) % 2147483647, none, by omega, ?_⟩
        refine Eq.trans (if_tt (k := decide ((0:Int) = 0)) (by kernel_rfl) rfl) ?_
        refine Eq.trans (if_ff (k := decide (((p : Int)) < ((ns.map PV.int).length : Int))) (by kernel_rfl) c3) ?_
        simp [sPut, dBin, dFun, dCons, dNil, dIxM, dC, dVar, R4, Sd, isLstM, slotM, putM, Res.bind, Res.toOut, ofO, pIx, atI, ixN, m1, pAdd, pMod, fInt]
    · refine ⟨p, a, b, none, ha, ?_⟩
      have h2 : (a == 0) = false := by simpa using h0
      exact Eq.trans (if_ff (k := (a == 0)) (by kernel_rfl) h2) rfl
  obtain ⟨p', a', b', x', ha', h1⟩ := h1
  have h2 : ∃ r c' y', IsSd ns c' ∧ 0 ≤ r ∧ r < size ∧ (sSeq (sIf (dAsB (dBin pGt (dIxM 0 (dC (.int 2))) (dC (.int 0)))) (sSeq (sSet 3 (dBin pMod (dFun fInt (dCons (dIxM 0 (dC (.int 2))) dNil)) (dVar 1)))
    (sSeq (sPut 0 (dBin pDiv (dIxM 0 (dC (.int 2))) (dVar 1)) (dC (.int 2)))
    (sRet (dVar 3)))) sNil)
    (sRet (dBin pMod (dBin pMod (dFun fInt (dCons (dBin pMul (dIxM 0 (dC (.int 3))) (dC (.int 16807))) dNil)) (dC (.int 2147483629))) (dVar 1)))) (R4 (Sd ns p' a' b') size x' none) = .rt (.int r) (R4 c' size x' y') := by
    by_cases h0 : 0 < a'
    · have l : size.natAbs.log2 < 9000 := by
        have : size.natAbs.log2 ≤ size.natAbs := Nat.log2_le_self _
        omega
      refine ⟨a' % size, Sd ns p' (a' / size) b', some (.val (.int (a' % size))), ⟨p', a' / size, b', Int.ediv_nonneg ha' (by omega), rfl⟩, Int.emod_nonneg _ (by omega), Int.emod_lt_of_pos _ hs, ?_⟩
      refine seq_rt (Eq.trans (if_tt (k := decide (0 < a')) (by kernel_rfl) (decide_eq_true h0)) ?_)
      simp [sSeq, sSet, sRet, sPut, dBin, dFun, dCons, dNil, dIxM, dC, dVar, R4, Sd, isLstM, slotM, putM, Res.bind, Res.toOut, Out.thn, ofO, pIx, atI, ixN, pMod, pDiv, fInt, hs, l]
    · have m1 : ∀ b : Int, pMul (.int b) (.int 16807) = some (.int (b * 16807)) := fun b => by simp [pMul]
      refine ⟨b' * 16807 % 2147483629 % size, Sd ns p' a' b', none, ⟨p', a', b', ha', rfl⟩, Int.emod_nonneg _ (by omega), Int.emod_lt_of_pos _ hs, ?_⟩
      refine Eq.trans (seq_nx (Eq.trans (if_ff (k := decide (0 < a')) (by kernel_rfl) (decide_eq_false h0)) rfl)) ?_
      simp [sSeq, sSet, sRet, sPut, dBin, dFun, dCons, dNil, dIxM, dC, dVar, R4, Sd, isLstM, slotM, putM, Res.bind, Res.toOut, Out.thn, ofO, pIx, atI, ixN, pMod, pDiv, fInt, hs, m1]
  obtain ⟨r, c', y', i', r0, r1, h2⟩ := h2
  refine ⟨r, c', ?_, i', r0, r1⟩
  have h3 : d_l_draw E (R4 (Sd ns p a b) size none none) = .rt (.int r) (R4 c' size x' y') := by
    unfold d_l_draw
    exact Eq.trans (seq_nx h1) h2
  unfold runI
  rw [show (some (SV.inp (Sd ns p a b)) :: [PV.int size].map (fun p => some (SV.val p)) ++ List.replicate (4 - ([PV.int size].length + 1)) none) = R4 (Sd ns p a b) size none none from rfl]
  rw [h3]
  rfl
end Pl

set_option maxHeartbeats 4000000
/-! S6: the regions that the law draws (printed). -/
namespace Pl
open PySem PySem.Spec PyProof.Rows L2
theorem callI_ok {f : PV → List PV → FRI} {d : DD (List PV)} {ρ : Rho} {i : Nat} {c c' r : PV} {xs : List PV} (hs : slotM ρ i = some c) (hd : d ρ = .ok xs ρ) (h : f c xs = .ok r c') : dCallI i f d ρ = .ok r (putM ρ i c') := by
  simp [dCallI, hs, hd, h, Res.bind]
theorem ret_rt {d : DE} {ρ ρ' : Rho} {p : PV} (h : d ρ = .ok p ρ') : sRet d ρ = .rt p ρ' := by
  simp [sRet, h, Res.toOut]
theorem ix_call {dl d : DE} {ρ ρ' : Rho} {xs : List PV} {r : Int} {v : PV} (h1 : dl ρ = .ok (.lst xs) ρ) (h2 : d ρ = .ok (.int r) ρ') (h3 : pIx (.lst xs) (.int r) = some v) : dBin pIx dl d ρ = .ok v ρ' := by
  simp [dBin, h1, h2, h3, Res.bind, ofO]
theorem cons_ok {d : DE} {r : DD (List PV)} {ρ ρ1 ρ2 : Rho} {x : PV} {xs : List PV} (h1 : d ρ = .ok x ρ1) (h2 : r ρ1 = .ok xs ρ2) : dCons d r ρ = .ok (x :: xs) ρ2 := by
  simp [dCons, h1, h2, Res.bind]
theorem tup_ok {r : DD (List PV)} {ρ ρ2 : Rho} {xs : List PV} (h2 : r ρ = .ok xs ρ2) (hl : xs.length ≤ 1000) : dTup r ρ = .ok (.tup xs) ρ2 := by
  simp [dTup, h2, Res.bind, hl]
def RI (c : PV) (x y z : Option SV) : Rho := [some (.inp c), x, y, z]
theorem plain_ok (ns : List Int) {c : PV} (hc : IsSd ns c) (e : Nat) : ∃ (r : Rg) (c' : PV), (env (e + 2)).i_l_plain c [] = .ok r.pv c' ∧ IsSd ns c' ∧ r.Ok ∧ r.dep = 1 := by
  have dr : ∀ c : PV, IsSd ns c → ∀ size : Int, 0 < size → size < 1000 → ∃ r c', (env (e + 1)).i_l_draw c [.int size] = .ok (.int r) c' ∧ IsSd ns c' ∧ 0 ≤ r ∧ r < size := fun c hc size h1 h2 => draw_ok ns hc e h1 h2
  suffices h : ∃ (r : Rg) (c' : PV) (ρ : Rho), d_l_plain (env (e + 1)) (RI c none none none) = .rt r.pv (some (.inp c') :: ρ) ∧ IsSd ns c' ∧ r.Ok ∧ r.dep = 1 by
    obtain ⟨r, c', ρ, h1, h2⟩ := h
    refine ⟨r, c', ?_, h2⟩
    show runI 4 (d_l_plain (env (e + 1))) c [] = _
    unfold runI
    rw [show (some (SV.inp c) :: ([] : List PV).map (fun p => some (SV.val p)) ++ List.replicate (4 - (([] : List PV).length + 1)) none) = RI c none none none from rfl, h1]
    rfl
  revert dr
  generalize env (e + 1) = E
  intro dr
  obtain ⟨r1, c1, h1, i1, l1, u1⟩ := dr c hc 10 (by omega) (by omega)
  obtain ⟨a, c2, h2, i2, l2, u2⟩ := dr c1 i1 3 (by omega) (by omega)
  obtain ⟨r2, c3, h3, i3, l3, u3⟩ := dr c2 i2 2 (by omega) (by omega)
  obtain ⟨r5, c5, h5, i5, l5, u5⟩ := dr c2 i2 5 (by omega) (by omega)
  unfold d_l_plain
  simp only [if_seq, nil_seq, ret_seq, seq_seq]
  have s1 : ∀ w : Str, pIx (.lst [.str "rows", .str "rows_up", .str "cols", .str "cols_back", .str "border", .str "high", .str "wide", .str "rows", .str "cols", .str "all"]) (.int r1) = some (.str w) → sSet 2 (dBin pIx (dVar 1) (dCallI 0 E.i_l_draw (dCons (dC (.int 10)) dNil))) (RI c (some (.val (.lst [.str "rows", .str "rows_up", .str "cols", .str "cols_back", .str "border", .str "high", .str "wide", .str "rows", .str "cols", .str "all"]))) none none) = .nx (RI c1 (some (.val (.lst [.str "rows", .str "rows_up", .str "cols", .str "cols_back", .str "border", .str "high", .str "wide", .str "rows", .str "cols", .str "all"]))) (some (.val (.str w))) none) := fun w hw =>
    Eq.trans (set_nx (ix_call (by kernel_rfl) (callI_ok (c := c) rfl rfl h1) hw)) rfl
  have s2 : ∀ x y, sSet 3 (dCallI 0 E.i_l_draw (dCons (dC (.int 3)) dNil)) (RI c1 x y none) = .nx (RI c2 x y (some (.val (.int a)))) := fun x y => Eq.trans (set_nx (callI_ok (c := c1) rfl rfl h2)) rfl
  have hr : r1 = 0 ∨ r1 = 1 ∨ r1 = 2 ∨ r1 = 3 ∨ r1 = 4 ∨ r1 = 5 ∨ r1 = 6 ∨ r1 = 7 ∨ r1 = 8 ∨ r1 = 9 := by omega
  have hk : r5 = 0 ∨ r5 = 1 ∨ r5 = 2 ∨ r5 = 3 ∨ r5 = 4 := by omega
  have h2' : r2 = 0 ∨ r2 = 1 := by omega
  have a9 : 0 ≤ a ∧ a ≤ 9 := by omega
  have t5 : ∀ (w : Str) (k : Int), pIx (.lst [.int 0, .int 1, .int 2, .int 2, .int 3]) (.int r5) = some (.int k) → sRet (dTup (dCons (dVar 2) (dCons (dVar 3) (dCons (dBin pIx (dLst (dCons (dC (.int 0)) (dCons (dC (.int 1)) (dCons (dC (.int 2)) (dCons (dC (.int 2)) (dCons (dC (.int 3)) dNil)))))) (dCallI 0 E.i_l_draw (dCons (dC (.int 5)) dNil))) dNil)))) (RI c2 (some (.val (.lst [.str "rows", .str "rows_up", .str "cols", .str "cols_back", .str "border", .str "high", .str "wide", .str "rows", .str "cols", .str "all"]))) (some (.val (.str w))) (some (.val (.int a)))) = .rt (.tup [.str w, .int a, .int k]) (RI c5 (some (.val (.lst [.str "rows", .str "rows_up", .str "cols", .str "cols_back", .str "border", .str "high", .str "wide", .str "rows", .str "cols", .str "all"]))) (some (.val (.str w))) (some (.val (.int a)))) := fun w k hk =>
    ret_rt (tup_ok (cons_ok (ρ1 := RI c2 (some (.val (.lst [.str "rows", .str "rows_up", .str "cols", .str "cols_back", .str "border", .str "high", .str "wide", .str "rows", .str "cols", .str "all"]))) (some (.val (.str w))) (some (.val (.int a)))) rfl (cons_ok (ρ1 := RI c2 (some (.val (.lst [.str "rows", .str "rows_up", .str "cols", .str "cols_back", .str "border", .str "high", .str "wide", .str "rows", .str "cols", .str "all"]))) (some (.val (.str w))) (some (.val (.int a)))) rfl (cons_ok (ix_call rfl (callI_ok (c := c2) rfl rfl h5) hk) rfl))) (by simp))
  rcases hr with rfl | rfl | rfl | rfl | rfl | rfl | rfl | rfl | rfl | rfl
  · have s1 := s1 "rows" rfl
    rcases hk with rfl | rfl | rfl | rfl | rfl
    · refine ⟨.rows a 0, c5, [some (.val (.lst [.str "rows", .str "rows_up", .str "cols", .str "cols_back", .str "border", .str "high", .str "wide", .str "rows", .str "cols", .str "all"])), some (.val (.str "rows")), some (.val (.int a))], Eq.trans (seq_nx (ρ' := RI c (some (.val (.lst [.str "rows", .str "rows_up", .str "cols", .str "cols_back", .str "border", .str "high", .str "wide", .str "rows", .str "cols", .str "all"]))) none none) (by kernel_rfl)) (Eq.trans (seq_nx s1) (Eq.trans (seq_nx (s2 _ _)) ?_)), i5, ⟨a9, by omega, by omega⟩, rfl⟩
      exact Eq.trans (by kernel_rfl) (t5 "rows" 0 rfl)
    · refine ⟨.rows a 1, c5, [some (.val (.lst [.str "rows", .str "rows_up", .str "cols", .str "cols_back", .str "border", .str "high", .str "wide", .str "rows", .str "cols", .str "all"])), some (.val (.str "rows")), some (.val (.int a))], Eq.trans (seq_nx (ρ' := RI c (some (.val (.lst [.str "rows", .str "rows_up", .str "cols", .str "cols_back", .str "border", .str "high", .str "wide", .str "rows", .str "cols", .str "all"]))) none none) (by kernel_rfl)) (Eq.trans (seq_nx s1) (Eq.trans (seq_nx (s2 _ _)) ?_)), i5, ⟨a9, by omega, by omega⟩, rfl⟩
      exact Eq.trans (by kernel_rfl) (t5 "rows" 1 rfl)
    · refine ⟨.rows a 2, c5, [some (.val (.lst [.str "rows", .str "rows_up", .str "cols", .str "cols_back", .str "border", .str "high", .str "wide", .str "rows", .str "cols", .str "all"])), some (.val (.str "rows")), some (.val (.int a))], Eq.trans (seq_nx (ρ' := RI c (some (.val (.lst [.str "rows", .str "rows_up", .str "cols", .str "cols_back", .str "border", .str "high", .str "wide", .str "rows", .str "cols", .str "all"]))) none none) (by kernel_rfl)) (Eq.trans (seq_nx s1) (Eq.trans (seq_nx (s2 _ _)) ?_)), i5, ⟨a9, by omega, by omega⟩, rfl⟩
      exact Eq.trans (by kernel_rfl) (t5 "rows" 2 rfl)
    · refine ⟨.rows a 2, c5, [some (.val (.lst [.str "rows", .str "rows_up", .str "cols", .str "cols_back", .str "border", .str "high", .str "wide", .str "rows", .str "cols", .str "all"])), some (.val (.str "rows")), some (.val (.int a))], Eq.trans (seq_nx (ρ' := RI c (some (.val (.lst [.str "rows", .str "rows_up", .str "cols", .str "cols_back", .str "border", .str "high", .str "wide", .str "rows", .str "cols", .str "all"]))) none none) (by kernel_rfl)) (Eq.trans (seq_nx s1) (Eq.trans (seq_nx (s2 _ _)) ?_)), i5, ⟨a9, by omega, by omega⟩, rfl⟩
      exact Eq.trans (by kernel_rfl) (t5 "rows" 2 rfl)
    · refine ⟨.rows a 3, c5, [some (.val (.lst [.str "rows", .str "rows_up", .str "cols", .str "cols_back", .str "border", .str "high", .str "wide", .str "rows", .str "cols", .str "all"])), some (.val (.str "rows")), some (.val (.int a))], Eq.trans (seq_nx (ρ' := RI c (some (.val (.lst [.str "rows", .str "rows_up", .str "cols", .str "cols_back", .str "border", .str "high", .str "wide", .str "rows", .str "cols", .str "all"]))) none none) (by kernel_rfl)) (Eq.trans (seq_nx s1) (Eq.trans (seq_nx (s2 _ _)) ?_)), i5, ⟨a9, by omega, by omega⟩, rfl⟩
      exact Eq.trans (by kernel_rfl) (t5 "rows" 3 rfl)
  · have s1 := s1 "rows_up" rfl
    rcases hk with rfl | rfl | rfl | rfl | rfl
    · refine ⟨.rowsUp a 0, c5, [some (.val (.lst [.str "rows", .str "rows_up", .str "cols", .str "cols_back", .str "border", .str "high", .str "wide", .str "rows", .str "cols", .str "all"])), some (.val (.str "rows_up")), some (.val (.int a))], Eq.trans (seq_nx (ρ' := RI c (some (.val (.lst [.str "rows", .str "rows_up", .str "cols", .str "cols_back", .str "border", .str "high", .str "wide", .str "rows", .str "cols", .str "all"]))) none none) (by kernel_rfl)) (Eq.trans (seq_nx s1) (Eq.trans (seq_nx (s2 _ _)) ?_)), i5, ⟨a9, by omega, by omega⟩, rfl⟩
      exact Eq.trans (by kernel_rfl) (t5 "rows_up" 0 rfl)
    · refine ⟨.rowsUp a 1, c5, [some (.val (.lst [.str "rows", .str "rows_up", .str "cols", .str "cols_back", .str "border", .str "high", .str "wide", .str "rows", .str "cols", .str "all"])), some (.val (.str "rows_up")), some (.val (.int a))], Eq.trans (seq_nx (ρ' := RI c (some (.val (.lst [.str "rows", .str "rows_up", .str "cols", .str "cols_back", .str "border", .str "high", .str "wide", .str "rows", .str "cols", .str "all"]))) none none) (by kernel_rfl)) (Eq.trans (seq_nx s1) (Eq.trans (seq_nx (s2 _ _)) ?_)), i5, ⟨a9, by omega, by omega⟩, rfl⟩
      exact Eq.trans (by kernel_rfl) (t5 "rows_up" 1 rfl)
    · refine ⟨.rowsUp a 2, c5, [some (.val (.lst [.str "rows", .str "rows_up", .str "cols", .str "cols_back", .str "border", .str "high", .str "wide", .str "rows", .str "cols", .str "all"])), some (.val (.str "rows_up")), some (.val (.int a))], Eq.trans (seq_nx (ρ' := RI c (some (.val (.lst [.str "rows", .str "rows_up", .str "cols", .str "cols_back", .str "border", .str "high", .str "wide", .str "rows", .str "cols", .str "all"]))) none none) (by kernel_rfl)) (Eq.trans (seq_nx s1) (Eq.trans (seq_nx (s2 _ _)) ?_)), i5, ⟨a9, by omega, by omega⟩, rfl⟩
      exact Eq.trans (by kernel_rfl) (t5 "rows_up" 2 rfl)
    · refine ⟨.rowsUp a 2, c5, [some (.val (.lst [.str "rows", .str "rows_up", .str "cols", .str "cols_back", .str "border", .str "high", .str "wide", .str "rows", .str "cols", .str "all"])), some (.val (.str "rows_up")), some (.val (.int a))], Eq.trans (seq_nx (ρ' := RI c (some (.val (.lst [.str "rows", .str "rows_up", .str "cols", .str "cols_back", .str "border", .str "high", .str "wide", .str "rows", .str "cols", .str "all"]))) none none) (by kernel_rfl)) (Eq.trans (seq_nx s1) (Eq.trans (seq_nx (s2 _ _)) ?_)), i5, ⟨a9, by omega, by omega⟩, rfl⟩
      exact Eq.trans (by kernel_rfl) (t5 "rows_up" 2 rfl)
    · refine ⟨.rowsUp a 3, c5, [some (.val (.lst [.str "rows", .str "rows_up", .str "cols", .str "cols_back", .str "border", .str "high", .str "wide", .str "rows", .str "cols", .str "all"])), some (.val (.str "rows_up")), some (.val (.int a))], Eq.trans (seq_nx (ρ' := RI c (some (.val (.lst [.str "rows", .str "rows_up", .str "cols", .str "cols_back", .str "border", .str "high", .str "wide", .str "rows", .str "cols", .str "all"]))) none none) (by kernel_rfl)) (Eq.trans (seq_nx s1) (Eq.trans (seq_nx (s2 _ _)) ?_)), i5, ⟨a9, by omega, by omega⟩, rfl⟩
      exact Eq.trans (by kernel_rfl) (t5 "rows_up" 3 rfl)
  · have s1 := s1 "cols" rfl
    rcases hk with rfl | rfl | rfl | rfl | rfl
    · refine ⟨.cols a 0, c5, [some (.val (.lst [.str "rows", .str "rows_up", .str "cols", .str "cols_back", .str "border", .str "high", .str "wide", .str "rows", .str "cols", .str "all"])), some (.val (.str "cols")), some (.val (.int a))], Eq.trans (seq_nx (ρ' := RI c (some (.val (.lst [.str "rows", .str "rows_up", .str "cols", .str "cols_back", .str "border", .str "high", .str "wide", .str "rows", .str "cols", .str "all"]))) none none) (by kernel_rfl)) (Eq.trans (seq_nx s1) (Eq.trans (seq_nx (s2 _ _)) ?_)), i5, ⟨a9, by omega, by omega⟩, rfl⟩
      exact Eq.trans (by kernel_rfl) (t5 "cols" 0 rfl)
    · refine ⟨.cols a 1, c5, [some (.val (.lst [.str "rows", .str "rows_up", .str "cols", .str "cols_back", .str "border", .str "high", .str "wide", .str "rows", .str "cols", .str "all"])), some (.val (.str "cols")), some (.val (.int a))], Eq.trans (seq_nx (ρ' := RI c (some (.val (.lst [.str "rows", .str "rows_up", .str "cols", .str "cols_back", .str "border", .str "high", .str "wide", .str "rows", .str "cols", .str "all"]))) none none) (by kernel_rfl)) (Eq.trans (seq_nx s1) (Eq.trans (seq_nx (s2 _ _)) ?_)), i5, ⟨a9, by omega, by omega⟩, rfl⟩
      exact Eq.trans (by kernel_rfl) (t5 "cols" 1 rfl)
    · refine ⟨.cols a 2, c5, [some (.val (.lst [.str "rows", .str "rows_up", .str "cols", .str "cols_back", .str "border", .str "high", .str "wide", .str "rows", .str "cols", .str "all"])), some (.val (.str "cols")), some (.val (.int a))], Eq.trans (seq_nx (ρ' := RI c (some (.val (.lst [.str "rows", .str "rows_up", .str "cols", .str "cols_back", .str "border", .str "high", .str "wide", .str "rows", .str "cols", .str "all"]))) none none) (by kernel_rfl)) (Eq.trans (seq_nx s1) (Eq.trans (seq_nx (s2 _ _)) ?_)), i5, ⟨a9, by omega, by omega⟩, rfl⟩
      exact Eq.trans (by kernel_rfl) (t5 "cols" 2 rfl)
    · refine ⟨.cols a 2, c5, [some (.val (.lst [.str "rows", .str "rows_up", .str "cols", .str "cols_back", .str "border", .str "high", .str "wide", .str "rows", .str "cols", .str "all"])), some (.val (.str "cols")), some (.val (.int a))], Eq.trans (seq_nx (ρ' := RI c (some (.val (.lst [.str "rows", .str "rows_up", .str "cols", .str "cols_back", .str "border", .str "high", .str "wide", .str "rows", .str "cols", .str "all"]))) none none) (by kernel_rfl)) (Eq.trans (seq_nx s1) (Eq.trans (seq_nx (s2 _ _)) ?_)), i5, ⟨a9, by omega, by omega⟩, rfl⟩
      exact Eq.trans (by kernel_rfl) (t5 "cols" 2 rfl)
    · refine ⟨.cols a 3, c5, [some (.val (.lst [.str "rows", .str "rows_up", .str "cols", .str "cols_back", .str "border", .str "high", .str "wide", .str "rows", .str "cols", .str "all"])), some (.val (.str "cols")), some (.val (.int a))], Eq.trans (seq_nx (ρ' := RI c (some (.val (.lst [.str "rows", .str "rows_up", .str "cols", .str "cols_back", .str "border", .str "high", .str "wide", .str "rows", .str "cols", .str "all"]))) none none) (by kernel_rfl)) (Eq.trans (seq_nx s1) (Eq.trans (seq_nx (s2 _ _)) ?_)), i5, ⟨a9, by omega, by omega⟩, rfl⟩
      exact Eq.trans (by kernel_rfl) (t5 "cols" 3 rfl)
  · have s1 := s1 "cols_back" rfl
    rcases hk with rfl | rfl | rfl | rfl | rfl
    · refine ⟨.colsBack a 0, c5, [some (.val (.lst [.str "rows", .str "rows_up", .str "cols", .str "cols_back", .str "border", .str "high", .str "wide", .str "rows", .str "cols", .str "all"])), some (.val (.str "cols_back")), some (.val (.int a))], Eq.trans (seq_nx (ρ' := RI c (some (.val (.lst [.str "rows", .str "rows_up", .str "cols", .str "cols_back", .str "border", .str "high", .str "wide", .str "rows", .str "cols", .str "all"]))) none none) (by kernel_rfl)) (Eq.trans (seq_nx s1) (Eq.trans (seq_nx (s2 _ _)) ?_)), i5, ⟨a9, by omega, by omega⟩, rfl⟩
      exact Eq.trans (by kernel_rfl) (t5 "cols_back" 0 rfl)
    · refine ⟨.colsBack a 1, c5, [some (.val (.lst [.str "rows", .str "rows_up", .str "cols", .str "cols_back", .str "border", .str "high", .str "wide", .str "rows", .str "cols", .str "all"])), some (.val (.str "cols_back")), some (.val (.int a))], Eq.trans (seq_nx (ρ' := RI c (some (.val (.lst [.str "rows", .str "rows_up", .str "cols", .str "cols_back", .str "border", .str "high", .str "wide", .str "rows", .str "cols", .str "all"]))) none none) (by kernel_rfl)) (Eq.trans (seq_nx s1) (Eq.trans (seq_nx (s2 _ _)) ?_)), i5, ⟨a9, by omega, by omega⟩, rfl⟩
      exact Eq.trans (by kernel_rfl) (t5 "cols_back" 1 rfl)
    · refine ⟨.colsBack a 2, c5, [some (.val (.lst [.str "rows", .str "rows_up", .str "cols", .str "cols_back", .str "border", .str "high", .str "wide", .str "rows", .str "cols", .str "all"])), some (.val (.str "cols_back")), some (.val (.int a))], Eq.trans (seq_nx (ρ' := RI c (some (.val (.lst [.str "rows", .str "rows_up", .str "cols", .str "cols_back", .str "border", .str "high", .str "wide", .str "rows", .str "cols", .str "all"]))) none none) (by kernel_rfl)) (Eq.trans (seq_nx s1) (Eq.trans (seq_nx (s2 _ _)) ?_)), i5, ⟨a9, by omega, by omega⟩, rfl⟩
      exact Eq.trans (by kernel_rfl) (t5 "cols_back" 2 rfl)
    · refine ⟨.colsBack a 2, c5, [some (.val (.lst [.str "rows", .str "rows_up", .str "cols", .str "cols_back", .str "border", .str "high", .str "wide", .str "rows", .str "cols", .str "all"])), some (.val (.str "cols_back")), some (.val (.int a))], Eq.trans (seq_nx (ρ' := RI c (some (.val (.lst [.str "rows", .str "rows_up", .str "cols", .str "cols_back", .str "border", .str "high", .str "wide", .str "rows", .str "cols", .str "all"]))) none none) (by kernel_rfl)) (Eq.trans (seq_nx s1) (Eq.trans (seq_nx (s2 _ _)) ?_)), i5, ⟨a9, by omega, by omega⟩, rfl⟩
      exact Eq.trans (by kernel_rfl) (t5 "cols_back" 2 rfl)
    · refine ⟨.colsBack a 3, c5, [some (.val (.lst [.str "rows", .str "rows_up", .str "cols", .str "cols_back", .str "border", .str "high", .str "wide", .str "rows", .str "cols", .str "all"])), some (.val (.str "cols_back")), some (.val (.int a))], Eq.trans (seq_nx (ρ' := RI c (some (.val (.lst [.str "rows", .str "rows_up", .str "cols", .str "cols_back", .str "border", .str "high", .str "wide", .str "rows", .str "cols", .str "all"]))) none none) (by kernel_rfl)) (Eq.trans (seq_nx s1) (Eq.trans (seq_nx (s2 _ _)) ?_)), i5, ⟨a9, by omega, by omega⟩, rfl⟩
      exact Eq.trans (by kernel_rfl) (t5 "cols_back" 3 rfl)
  · have s1 := s1 "border" rfl
    refine ⟨.border a, c2, [some (.val (.lst [.str "rows", .str "rows_up", .str "cols", .str "cols_back", .str "border", .str "high", .str "wide", .str "rows", .str "cols", .str "all"])), some (.val (.str "border")), some (.val (.int a))], Eq.trans (seq_nx (ρ' := RI c (some (.val (.lst [.str "rows", .str "rows_up", .str "cols", .str "cols_back", .str "border", .str "high", .str "wide", .str "rows", .str "cols", .str "all"]))) none none) (by kernel_rfl)) (Eq.trans (seq_nx s1) (Eq.trans (seq_nx (s2 _ _)) ?_)), i2, a9, rfl⟩
    exact Eq.trans (b := Out.rt (.tup [.str "border", .int a]) (RI c2 (some (.val (.lst [.str "rows", .str "rows_up", .str "cols", .str "cols_back", .str "border", .str "high", .str "wide", .str "rows", .str "cols", .str "all"]))) (some (.val (.str "border"))) (some (.val (.int a))))) (by kernel_rfl) rfl
  · have s1 := s1 "high" rfl
    refine ⟨.high a, c2, [some (.val (.lst [.str "rows", .str "rows_up", .str "cols", .str "cols_back", .str "border", .str "high", .str "wide", .str "rows", .str "cols", .str "all"])), some (.val (.str "high")), some (.val (.int a))], Eq.trans (seq_nx (ρ' := RI c (some (.val (.lst [.str "rows", .str "rows_up", .str "cols", .str "cols_back", .str "border", .str "high", .str "wide", .str "rows", .str "cols", .str "all"]))) none none) (by kernel_rfl)) (Eq.trans (seq_nx s1) (Eq.trans (seq_nx (s2 _ _)) ?_)), i2, a9, rfl⟩
    exact Eq.trans (b := Out.rt (.tup [.str "high", .int a]) (RI c2 (some (.val (.lst [.str "rows", .str "rows_up", .str "cols", .str "cols_back", .str "border", .str "high", .str "wide", .str "rows", .str "cols", .str "all"]))) (some (.val (.str "high"))) (some (.val (.int a))))) (by kernel_rfl) rfl
  · have s1 := s1 "wide" rfl
    refine ⟨.wide a, c2, [some (.val (.lst [.str "rows", .str "rows_up", .str "cols", .str "cols_back", .str "border", .str "high", .str "wide", .str "rows", .str "cols", .str "all"])), some (.val (.str "wide")), some (.val (.int a))], Eq.trans (seq_nx (ρ' := RI c (some (.val (.lst [.str "rows", .str "rows_up", .str "cols", .str "cols_back", .str "border", .str "high", .str "wide", .str "rows", .str "cols", .str "all"]))) none none) (by kernel_rfl)) (Eq.trans (seq_nx s1) (Eq.trans (seq_nx (s2 _ _)) ?_)), i2, a9, rfl⟩
    exact Eq.trans (b := Out.rt (.tup [.str "wide", .int a]) (RI c2 (some (.val (.lst [.str "rows", .str "rows_up", .str "cols", .str "cols_back", .str "border", .str "high", .str "wide", .str "rows", .str "cols", .str "all"]))) (some (.val (.str "wide"))) (some (.val (.int a))))) (by kernel_rfl) rfl
  · have s1 := s1 "rows" rfl
    rcases hk with rfl | rfl | rfl | rfl | rfl
    · refine ⟨.rows a 0, c5, [some (.val (.lst [.str "rows", .str "rows_up", .str "cols", .str "cols_back", .str "border", .str "high", .str "wide", .str "rows", .str "cols", .str "all"])), some (.val (.str "rows")), some (.val (.int a))], Eq.trans (seq_nx (ρ' := RI c (some (.val (.lst [.str "rows", .str "rows_up", .str "cols", .str "cols_back", .str "border", .str "high", .str "wide", .str "rows", .str "cols", .str "all"]))) none none) (by kernel_rfl)) (Eq.trans (seq_nx s1) (Eq.trans (seq_nx (s2 _ _)) ?_)), i5, ⟨a9, by omega, by omega⟩, rfl⟩
      exact Eq.trans (by kernel_rfl) (t5 "rows" 0 rfl)
    · refine ⟨.rows a 1, c5, [some (.val (.lst [.str "rows", .str "rows_up", .str "cols", .str "cols_back", .str "border", .str "high", .str "wide", .str "rows", .str "cols", .str "all"])), some (.val (.str "rows")), some (.val (.int a))], Eq.trans (seq_nx (ρ' := RI c (some (.val (.lst [.str "rows", .str "rows_up", .str "cols", .str "cols_back", .str "border", .str "high", .str "wide", .str "rows", .str "cols", .str "all"]))) none none) (by kernel_rfl)) (Eq.trans (seq_nx s1) (Eq.trans (seq_nx (s2 _ _)) ?_)), i5, ⟨a9, by omega, by omega⟩, rfl⟩
      exact Eq.trans (by kernel_rfl) (t5 "rows" 1 rfl)
    · refine ⟨.rows a 2, c5, [some (.val (.lst [.str "rows", .str "rows_up", .str "cols", .str "cols_back", .str "border", .str "high", .str "wide", .str "rows", .str "cols", .str "all"])), some (.val (.str "rows")), some (.val (.int a))], Eq.trans (seq_nx (ρ' := RI c (some (.val (.lst [.str "rows", .str "rows_up", .str "cols", .str "cols_back", .str "border", .str "high", .str "wide", .str "rows", .str "cols", .str "all"]))) none none) (by kernel_rfl)) (Eq.trans (seq_nx s1) (Eq.trans (seq_nx (s2 _ _)) ?_)), i5, ⟨a9, by omega, by omega⟩, rfl⟩
      exact Eq.trans (by kernel_rfl) (t5 "rows" 2 rfl)
    · refine ⟨.rows a 2, c5, [some (.val (.lst [.str "rows", .str "rows_up", .str "cols", .str "cols_back", .str "border", .str "high", .str "wide", .str "rows", .str "cols", .str "all"])), some (.val (.str "rows")), some (.val (.int a))], Eq.trans (seq_nx (ρ' := RI c (some (.val (.lst [.str "rows", .str "rows_up", .str "cols", .str "cols_back", .str "border", .str "high", .str "wide", .str "rows", .str "cols", .str "all"]))) none none) (by kernel_rfl)) (Eq.trans (seq_nx s1) (Eq.trans (seq_nx (s2 _ _)) ?_)), i5, ⟨a9, by omega, by omega⟩, rfl⟩
      exact Eq.trans (by kernel_rfl) (t5 "rows" 2 rfl)
    · refine ⟨.rows a 3, c5, [some (.val (.lst [.str "rows", .str "rows_up", .str "cols", .str "cols_back", .str "border", .str "high", .str "wide", .str "rows", .str "cols", .str "all"])), some (.val (.str "rows")), some (.val (.int a))], Eq.trans (seq_nx (ρ' := RI c (some (.val (.lst [.str "rows", .str "rows_up", .str "cols", .str "cols_back", .str "border", .str "high", .str "wide", .str "rows", .str "cols", .str "all"]))) none none) (by kernel_rfl)) (Eq.trans (seq_nx s1) (Eq.trans (seq_nx (s2 _ _)) ?_)), i5, ⟨a9, by omega, by omega⟩, rfl⟩
      exact Eq.trans (by kernel_rfl) (t5 "rows" 3 rfl)
  · have s1 := s1 "cols" rfl
    rcases hk with rfl | rfl | rfl | rfl | rfl
    · refine ⟨.cols a 0, c5, [some (.val (.lst [.str "rows", .str "rows_up", .str "cols", .str "cols_back", .str "border", .str "high", .str "wide", .str "rows", .str "cols", .str "all"])), some (.val (.str "cols")), some (.val (.int a))], Eq.trans (seq_nx (ρ' := RI c (some (.val (.lst [.str "rows", .str "rows_up", .str "cols", .str "cols_back", .str "border", .str "high", .str "wide", .str "rows", .str "cols", .str "all"]))) none none) (by kernel_rfl)) (Eq.trans (seq_nx s1) (Eq.trans (seq_nx (s2 _ _)) ?_)), i5, ⟨a9, by omega, by omega⟩, rfl⟩
      exact Eq.trans (by kernel_rfl) (t5 "cols" 0 rfl)
    · refine ⟨.cols a 1, c5, [some (.val (.lst [.str "rows", .str "rows_up", .str "cols", .str "cols_back", .str "border", .str "high", .str "wide", .str "rows", .str "cols", .str "all"])), some (.val (.str "cols")), some (.val (.int a))], Eq.trans (seq_nx (ρ' := RI c (some (.val (.lst [.str "rows", .str "rows_up", .str "cols", .str "cols_back", .str "border", .str "high", .str "wide", .str "rows", .str "cols", .str "all"]))) none none) (by kernel_rfl)) (Eq.trans (seq_nx s1) (Eq.trans (seq_nx (s2 _ _)) ?_)), i5, ⟨a9, by omega, by omega⟩, rfl⟩
      exact Eq.trans (by kernel_rfl) (t5 "cols" 1 rfl)
    · refine ⟨.cols a 2, c5, [some (.val (.lst [.str "rows", .str "rows_up", .str "cols", .str "cols_back", .str "border", .str "high", .str "wide", .str "rows", .str "cols", .str "all"])), some (.val (.str "cols")), some (.val (.int a))], Eq.trans (seq_nx (ρ' := RI c (some (.val (.lst [.str "rows", .str "rows_up", .str "cols", .str "cols_back", .str "border", .str "high", .str "wide", .str "rows", .str "cols", .str "all"]))) none none) (by kernel_rfl)) (Eq.trans (seq_nx s1) (Eq.trans (seq_nx (s2 _ _)) ?_)), i5, ⟨a9, by omega, by omega⟩, rfl⟩
      exact Eq.trans (by kernel_rfl) (t5 "cols" 2 rfl)
    · refine ⟨.cols a 2, c5, [some (.val (.lst [.str "rows", .str "rows_up", .str "cols", .str "cols_back", .str "border", .str "high", .str "wide", .str "rows", .str "cols", .str "all"])), some (.val (.str "cols")), some (.val (.int a))], Eq.trans (seq_nx (ρ' := RI c (some (.val (.lst [.str "rows", .str "rows_up", .str "cols", .str "cols_back", .str "border", .str "high", .str "wide", .str "rows", .str "cols", .str "all"]))) none none) (by kernel_rfl)) (Eq.trans (seq_nx s1) (Eq.trans (seq_nx (s2 _ _)) ?_)), i5, ⟨a9, by omega, by omega⟩, rfl⟩
      exact Eq.trans (by kernel_rfl) (t5 "cols" 2 rfl)
    · refine ⟨.cols a 3, c5, [some (.val (.lst [.str "rows", .str "rows_up", .str "cols", .str "cols_back", .str "border", .str "high", .str "wide", .str "rows", .str "cols", .str "all"])), some (.val (.str "cols")), some (.val (.int a))], Eq.trans (seq_nx (ρ' := RI c (some (.val (.lst [.str "rows", .str "rows_up", .str "cols", .str "cols_back", .str "border", .str "high", .str "wide", .str "rows", .str "cols", .str "all"]))) none none) (by kernel_rfl)) (Eq.trans (seq_nx s1) (Eq.trans (seq_nx (s2 _ _)) ?_)), i5, ⟨a9, by omega, by omega⟩, rfl⟩
      exact Eq.trans (by kernel_rfl) (t5 "cols" 3 rfl)
  · have s1 := s1 "all" rfl
    rcases h2' with rfl | rfl
    · refine ⟨.all, c3, [some (.val (.lst [.str "rows", .str "rows_up", .str "cols", .str "cols_back", .str "border", .str "high", .str "wide", .str "rows", .str "cols", .str "all"])), some (.val (.str "all")), some (.val (.int a))], Eq.trans (seq_nx (ρ' := RI c (some (.val (.lst [.str "rows", .str "rows_up", .str "cols", .str "cols_back", .str "border", .str "high", .str "wide", .str "rows", .str "cols", .str "all"]))) none none) (by kernel_rfl)) (Eq.trans (seq_nx s1) (Eq.trans (seq_nx (s2 _ _)) ?_)), i3, trivial, rfl⟩
      refine Eq.trans (b := sRet (dTup (dCons (dBin pIx (dLst (dCons (dC (.str "all")) (dCons (dC (.str "none")) dNil))) (dCallI 0 E.i_l_draw (dCons (dC (.int 2)) dNil))) dNil)) (RI c2 (some (.val (.lst [.str "rows", .str "rows_up", .str "cols", .str "cols_back", .str "border", .str "high", .str "wide", .str "rows", .str "cols", .str "all"]))) (some (.val (.str "all"))) (some (.val (.int a))))) (by kernel_rfl) ?_
      exact ret_rt (tup_ok (cons_ok (ix_call rfl (callI_ok (c := c2) rfl rfl h3) rfl) rfl) (by simp))
    · refine ⟨.none, c3, [some (.val (.lst [.str "rows", .str "rows_up", .str "cols", .str "cols_back", .str "border", .str "high", .str "wide", .str "rows", .str "cols", .str "all"])), some (.val (.str "all")), some (.val (.int a))], Eq.trans (seq_nx (ρ' := RI c (some (.val (.lst [.str "rows", .str "rows_up", .str "cols", .str "cols_back", .str "border", .str "high", .str "wide", .str "rows", .str "cols", .str "all"]))) none none) (by kernel_rfl)) (Eq.trans (seq_nx s1) (Eq.trans (seq_nx (s2 _ _)) ?_)), i3, trivial, rfl⟩
      refine Eq.trans (b := sRet (dTup (dCons (dBin pIx (dLst (dCons (dC (.str "all")) (dCons (dC (.str "none")) dNil))) (dCallI 0 E.i_l_draw (dCons (dC (.int 2)) dNil))) dNil)) (RI c2 (some (.val (.lst [.str "rows", .str "rows_up", .str "cols", .str "cols_back", .str "border", .str "high", .str "wide", .str "rows", .str "cols", .str "all"]))) (some (.val (.str "all"))) (some (.val (.int a))))) (by kernel_rfl) ?_
      exact ret_rt (tup_ok (cons_ok (ix_call rfl (callI_ok (c := c2) rfl rfl h3) rfl) rfl) (by simp))
end Pl

set_option maxHeartbeats 4000000
/-! S7: the regions that the law draws, deep ones (printed). -/
namespace Pl
open PySem PySem.Spec PyProof.Rows L2
theorem bin_ok {f : PV → PV → Option PV} {da db : DE} {ρ ρ1 ρ2 : Rho} {x y z : PV} (h1 : da ρ = .ok x ρ1) (h2 : db ρ1 = .ok y ρ2) (h3 : f x y = some z) : dBin f da db ρ = .ok z ρ2 := by
  simp [dBin, h1, h2, h3, Res.bind, ofO]
theorem or_ff {d u : DD Bool} {ρ : Rho} (h1 : d ρ = .ok false ρ) (h2 : u ρ = .ok false ρ) : dOr d u ρ = .ok false ρ := by
  simp [dOr, h1, h2, Res.bind]
theorem region_ok (ns : List Int) : ∀ (d : Nat) (e : Nat) {c : PV}, IsSd ns c → ∃ (r : Rg) (c' : PV), (env (e + d + 3)).i_l_region c [.int ((d : Int) + 1)] = .ok r.pv c' ∧ IsSd ns c' ∧ r.Ok ∧ r.dep ≤ d + 1 := by
  intro d
  induction d with
  | zero =>
    intro e c hc
    obtain ⟨r1, c1, h1, i1, l1, u1⟩ := draw_ok ns hc (e + 1) (size := 8) (by omega) (by omega)
    obtain ⟨r, c2, h2, i2, o2, d2⟩ := plain_ok ns i1 e
    refine ⟨r, c2, ?_, i2, o2, by omega⟩
    show runI 4 (d_l_region (env (e + 2))) c [.int 1] = _
    revert h1 h2
    rw [show e + 1 + 1 = e + 2 from rfl]
    generalize env (e + 2) = E
    intro h1 h2
    have hr : r1 = 0 ∨ r1 = 1 ∨ r1 = 2 ∨ r1 = 3 ∨ r1 = 4 ∨ r1 = 5 ∨ r1 = 6 ∨ r1 = 7 := by omega
    have s1 : ∀ w : Str, pIx (.lst [.str "and", .str "or", .str "not", .str "move", .str "mirror", .str "flip", .str "turn", .str "plain"]) (.int r1) = some (.str w) → sSet 2 (dBin pIx (dLst (dCons (dC (.str "and")) (dCons (dC (.str "or")) (dCons (dC (.str "not")) (dCons (dC (.str "move")) (dCons (dC (.str "mirror")) (dCons (dC (.str "flip")) (dCons (dC (.str "turn")) (dCons (dC (.str "plain")) dNil))))))))) (dCallI 0 E.i_l_draw (dCons (dC (.int 8)) dNil))) (RI c (some (.val (.int 1))) none none) = .nx (RI c1 (some (.val (.int 1))) (some (.val (.str w))) none) := fun w hw =>
      Eq.trans (set_nx (ix_call (by kernel_rfl) (callI_ok (c := c) rfl rfl h1) hw)) rfl
    have s2 : ∀ w : Str, sRet (dCallI 0 E.i_l_plain dNil) (RI c1 (some (.val (.int 1))) (some (.val (.str w))) none) = .rt r.pv (RI c2 (some (.val (.int 1))) (some (.val (.str w))) none) := fun w => ret_rt (callI_ok (c := c1) rfl rfl h2)
    have fin : ∀ w : Str, pIx (.lst [.str "and", .str "or", .str "not", .str "move", .str "mirror", .str "flip", .str "turn", .str "plain"]) (.int r1) = some (.str w) → d_l_region E (RI c (some (.val (.int 1))) none none) = .rt r.pv (RI c2 (some (.val (.int 1))) (some (.val (.str w))) none) := fun w hw => by
      unfold d_l_region
      simp only [if_seq, nil_seq, ret_seq, seq_seq]
      exact Eq.trans (seq_nx (s1 w hw)) (Eq.trans (b := sRet (dCallI 0 E.i_l_plain dNil) (RI c1 (some (.val (.int 1))) (some (.val (.str w))) none)) (by kernel_rfl) (s2 w))
    have done : ∀ w : Str, pIx (.lst [.str "and", .str "or", .str "not", .str "move", .str "mirror", .str "flip", .str "turn", .str "plain"]) (.int r1) = some (.str w) → runI 4 (d_l_region E) c [.int 1] = .ok r.pv c2 := fun w hw => by
      unfold runI
      rw [show (some (SV.inp c) :: [PV.int 1].map (fun p => some (SV.val p)) ++ List.replicate (4 - ([PV.int 1].length + 1)) none) = RI c (some (.val (.int 1))) none none from rfl, fin w hw]
      rfl
    rcases hr with rfl | rfl | rfl | rfl | rfl | rfl | rfl | rfl <;> exact done _ rfl
  | succ d ih =>
    intro e c hc
    obtain ⟨r1, c1, h1, i1, l1, u1⟩ := draw_ok ns hc (e + d + 2) (size := 8) (by omega) (by omega)
    obtain ⟨rp, cp, hp, ip, op, dp⟩ := plain_ok ns i1 (e + d + 1)
    obtain ⟨x, c2, h2, i2, o2, d2⟩ := ih e i1
    obtain ⟨y, c3, h3, i3, o3, d3⟩ := ih e i2
    obtain ⟨r4, c4, h4, i4, l4, u4⟩ := draw_ok ns i2 (e + d + 2) (size := 4) (by omega) (by omega)
    obtain ⟨r5, c5, h5, i5, l5, u5⟩ := draw_ok ns i4 (e + d + 2) (size := 4) (by omega) (by omega)
    suffices h : ∃ (r : Rg) (c' : PV) (ρ : Rho), d_l_region (env (e + d + 3)) (RI c (some (.val (.int ((d : Int) + 1 + 1)))) none none) = .rt r.pv (some (.inp c') :: ρ) ∧ IsSd ns c' ∧ r.Ok ∧ r.dep ≤ d + 2 by
      obtain ⟨r, c', ρ, h1, h2⟩ := h
      refine ⟨r, c', ?_, h2⟩
      show runI 4 (d_l_region (env (e + d + 3))) c [.int ((d : Int) + 1 + 1)] = _
      unfold runI
      rw [show (some (SV.inp c) :: [PV.int ((d : Int) + 1 + 1)].map (fun p => some (SV.val p)) ++ List.replicate (4 - ([PV.int ((d : Int) + 1 + 1)].length + 1)) none) = RI c (some (.val (.int ((d : Int) + 1 + 1)))) none none from rfl, h1]
      rfl
    revert h1 hp h2 h3 h4 h5
    rw [show e + d + 2 + 1 = e + d + 3 from rfl, show e + d + 1 + 2 = e + d + 3 from rfl]
    generalize env (e + d + 3) = E
    intro h1 hp h2 h3 h4 h5
    have dd : ((d : Int) + 1 + 1 - 1) = (d : Int) + 1 := by omega
    have dle : decide (((d : Int) + 1 + 1) ≤ 1) = false := decide_eq_false (by omega)
    generalize hD : ((d : Int) + 1 + 1) = D at *
    have hr : r1 = 0 ∨ r1 = 1 ∨ r1 = 2 ∨ r1 = 3 ∨ r1 = 4 ∨ r1 = 5 ∨ r1 = 6 ∨ r1 = 7 := by omega
    have s1 : ∀ w : Str, pIx (.lst [.str "and", .str "or", .str "not", .str "move", .str "mirror", .str "flip", .str "turn", .str "plain"]) (.int r1) = some (.str w) → sSet 2 (dBin pIx (dLst (dCons (dC (.str "and")) (dCons (dC (.str "or")) (dCons (dC (.str "not")) (dCons (dC (.str "move")) (dCons (dC (.str "mirror")) (dCons (dC (.str "flip")) (dCons (dC (.str "turn")) (dCons (dC (.str "plain")) dNil))))))))) (dCallI 0 E.i_l_draw (dCons (dC (.int 8)) dNil))) (RI c (some (.val (.int D))) none none) = .nx (RI c1 (some (.val (.int D))) (some (.val (.str w))) none) := fun w hw =>
      Eq.trans (set_nx (ix_call (by kernel_rfl) (callI_ok (c := c) rfl rfl h1) hw)) rfl
    have sd : ∀ c y z, dCons (dBin pSub (dVar 1) (dC (.int 1))) dNil (RI c (some (.val (.int D))) y z) = .ok [.int ((d : Int) + 1)] (RI c (some (.val (.int D))) y z) := fun c y z => by
      rw [← dd]
      rfl
    have s2 : ∀ y, sSet 3 (dCallI 0 E.i_l_region (dCons (dBin pSub (dVar 1) (dC (.int 1))) dNil)) (RI c1 (some (.val (.int D))) y none) = .nx (RI c2 (some (.val (.int D))) y (some (.val x.pv))) := fun y => Eq.trans (set_nx (callI_ok (c := c1) rfl (sd _ _ _) h2)) rfl
    have t1 : ∀ w : Str, (dAsB (dBin pLe (dVar 1) (dC (.int 1)))) (RI c1 (some (.val (.int D))) (some (.val (.str w))) none) = .ok false (RI c1 (some (.val (.int D))) (some (.val (.str w))) none) := fun w => by
      rw [← dle]
      rfl
    unfold d_l_region
    simp only [if_seq, nil_seq, ret_seq, seq_seq]
    rcases hr with rfl | rfl | rfl | rfl | rfl | rfl | rfl | rfl
    · refine ⟨.and x y, c3, [some (.val (.int D)), some (.val (.str "and")), some (.val x.pv)], Eq.trans (seq_nx (s1 "and" rfl)) (Eq.trans (if_ff (k := false) (or_ff (t1 "and") (by kernel_rfl)) rfl) (Eq.trans (seq_nx (s2 _)) ?_)), i3, ⟨o2, o3⟩, by simp only [Rg.dep]; omega⟩
      refine Eq.trans (b := sRet (dTup (dCons (dVar 2) (dCons (dVar 3) (dCons (dCallI 0 E.i_l_region (dCons (dBin pSub (dVar 1) (dC (.int 1))) dNil)) dNil)))) (RI c2 (some (.val (.int D))) (some (.val (.str "and"))) (some (.val x.pv)))) (by kernel_rfl) ?_
      exact ret_rt (tup_ok (cons_ok (ρ1 := RI c2 (some (.val (.int D))) (some (.val (.str "and"))) (some (.val x.pv))) rfl (cons_ok (ρ1 := RI c2 (some (.val (.int D))) (some (.val (.str "and"))) (some (.val x.pv))) rfl (cons_ok (callI_ok (c := c2) rfl (sd _ _ _) h3) rfl))) (by simp))
    · refine ⟨.or x y, c3, [some (.val (.int D)), some (.val (.str "or")), some (.val x.pv)], Eq.trans (seq_nx (s1 "or" rfl)) (Eq.trans (if_ff (k := false) (or_ff (t1 "or") (by kernel_rfl)) rfl) (Eq.trans (seq_nx (s2 _)) ?_)), i3, ⟨o2, o3⟩, by simp only [Rg.dep]; omega⟩
      refine Eq.trans (b := sRet (dTup (dCons (dVar 2) (dCons (dVar 3) (dCons (dCallI 0 E.i_l_region (dCons (dBin pSub (dVar 1) (dC (.int 1))) dNil)) dNil)))) (RI c2 (some (.val (.int D))) (some (.val (.str "or"))) (some (.val x.pv)))) (by kernel_rfl) ?_
      exact ret_rt (tup_ok (cons_ok (ρ1 := RI c2 (some (.val (.int D))) (some (.val (.str "or"))) (some (.val x.pv))) rfl (cons_ok (ρ1 := RI c2 (some (.val (.int D))) (some (.val (.str "or"))) (some (.val x.pv))) rfl (cons_ok (callI_ok (c := c2) rfl (sd _ _ _) h3) rfl))) (by simp))
    · exact ⟨.not x, c2, [some (.val (.int D)), some (.val (.str "not")), some (.val x.pv)], Eq.trans (seq_nx (s1 "not" rfl)) (Eq.trans (if_ff (k := false) (or_ff (t1 "not") (by kernel_rfl)) rfl) (Eq.trans (seq_nx (s2 _)) (by kernel_rfl))), i2, o2, by simp only [Rg.dep]; omega⟩
    · refine ⟨.move (r4 - 1) (r5 - 2) x, c5, [some (.val (.int D)), some (.val (.str "move")), some (.val x.pv)], Eq.trans (seq_nx (s1 "move" rfl)) (Eq.trans (if_ff (k := false) (or_ff (t1 "move") (by kernel_rfl)) rfl) (Eq.trans (seq_nx (s2 _)) ?_)), i5, ⟨⟨by omega, by omega⟩, ⟨by omega, by omega⟩, o2⟩, by simp only [Rg.dep]; omega⟩
      refine Eq.trans (b := sRet (dTup (dCons (dVar 2) (dCons (dBin pSub (dCallI 0 E.i_l_draw (dCons (dC (.int 4)) dNil)) (dC (.int 1))) (dCons (dBin pSub (dCallI 0 E.i_l_draw (dCons (dC (.int 4)) dNil)) (dC (.int 2))) (dCons (dVar 3) dNil))))) (RI c2 (some (.val (.int D))) (some (.val (.str "move"))) (some (.val x.pv)))) (by kernel_rfl) ?_
      exact ret_rt (tup_ok (cons_ok (ρ1 := RI c2 (some (.val (.int D))) (some (.val (.str "move"))) (some (.val x.pv))) rfl (cons_ok (ρ1 := RI c4 (some (.val (.int D))) (some (.val (.str "move"))) (some (.val x.pv))) (bin_ok (callI_ok (c := c2) rfl rfl h4) rfl rfl) (cons_ok (ρ1 := RI c5 (some (.val (.int D))) (some (.val (.str "move"))) (some (.val x.pv))) (bin_ok (callI_ok (c := c4) rfl rfl h5) rfl rfl) (cons_ok rfl rfl)))) (by simp))
    · exact ⟨.mirror x, c2, [some (.val (.int D)), some (.val (.str "mirror")), some (.val x.pv)], Eq.trans (seq_nx (s1 "mirror" rfl)) (Eq.trans (if_ff (k := false) (or_ff (t1 "mirror") (by kernel_rfl)) rfl) (Eq.trans (seq_nx (s2 _)) (by kernel_rfl))), i2, o2, by simp only [Rg.dep]; omega⟩
    · exact ⟨.flip x, c2, [some (.val (.int D)), some (.val (.str "flip")), some (.val x.pv)], Eq.trans (seq_nx (s1 "flip" rfl)) (Eq.trans (if_ff (k := false) (or_ff (t1 "flip") (by kernel_rfl)) rfl) (Eq.trans (seq_nx (s2 _)) (by kernel_rfl))), i2, o2, by simp only [Rg.dep]; omega⟩
    · exact ⟨.turn x, c2, [some (.val (.int D)), some (.val (.str "turn")), some (.val x.pv)], Eq.trans (seq_nx (s1 "turn" rfl)) (Eq.trans (if_ff (k := false) (or_ff (t1 "turn") (by kernel_rfl)) rfl) (Eq.trans (seq_nx (s2 _)) (by kernel_rfl))), i2, o2, by simp only [Rg.dep]; omega⟩
    · refine ⟨rp, cp, [some (.val (.int D)), some (.val (.str "plain")), none], Eq.trans (seq_nx (s1 "plain" rfl)) (Eq.trans (b := sRet (dCallI 0 E.i_l_plain dNil) (RI c1 (some (.val (.int D))) (some (.val (.str "plain"))) none)) ?_ (ret_rt (callI_ok (c := c1) rfl rfl hp))), ip, op, by omega⟩
      refine Eq.trans (if_tt (k := true) ?_ rfl) rfl
      have q := t1 "plain"
      unfold dOr
      rw [q]
      kernel_rfl
end Pl

set_option maxHeartbeats 4000000
/-! S8: rows of signs; drawn. -/
namespace Pl
open PySem PySem.Spec PyProof.Rows L2
theorem compL_map {g : Tg} {body : DE} {ρ : Rho} {y : PV → PV} : ∀ {ps : List PV}, (∀ p ∈ ps, ∃ ρ1, g.set p ρ = some ρ1 ∧ ∃ ρ2, body ρ1 = .ok (y p) ρ2) → compL g tyesD body ρ ps = some (ps.map y)
  | [], _ => rfl
  | p :: ps, h => by
    obtain ⟨ρ1, h1, ρ2, h2⟩ := h p List.mem_cons_self
    have ih := compL_map (ps := ps) (y := y) fun q hq => h q (List.mem_cons_of_mem _ hq)
    unfold compL
    rw [h1]
    simp only [tyesD, h2, ih, Option.map_some, List.map_cons]
theorem comp_map {vs : List Nat} {g : Tg} {di : DD (List PV)} {body : DE} {ρ : Rho} {ps : List PV} {y : PV → PV} (hd : di ρ = .ok ps ρ) (hl : ps.length ≤ LIM) (h : ∀ p ∈ ps, ∃ ρ1, g.set p (wipeR (valsOf ρ) vs) = some ρ1 ∧ ∃ ρ2, body ρ1 = .ok (y p) ρ2) :
    dComp vs g di tyesD body ρ = .ok (.lst (ps.map y)) ρ := by
  simp [dComp, hd, Res.bind, compL_map h, hl]
theorem forL_own {σ : Type} {g : Tg} {d : DS} {row : PV → PV} {mk : List PV → σ → Rho} {all : List PV} (step : ∀ (acc : List PV) (s : σ) (p : PV), p ∈ all → acc.length ≤ 100 → ∃ ρ1 s', g.set p (mk acc s) = some ρ1 ∧ d ρ1 = .nx (mk (acc ++ [row p]) s')) :
    ∀ (ps : List PV) (acc : List PV) (s : σ), (∀ p ∈ ps, p ∈ all) → acc.length + ps.length ≤ 100 → ∃ s', forL g d ps (mk acc s) = .nx (mk (acc ++ ps.map row) s')
  | [], acc, s, _, _ => ⟨s, by simp [forL]⟩
  | p :: ps, acc, s, hm, hl => by
    obtain ⟨ρ1, s1, h1, h2⟩ := step acc s p (hm p List.mem_cons_self) (by omega)
    obtain ⟨s2, h3⟩ := forL_own step ps (acc ++ [row p]) s1 (fun q hq => hm q (List.mem_cons_of_mem _ hq)) (by simp at hl ⊢; omega)
    refine ⟨s2, ?_⟩
    unfold forL
    rw [h1]
    simp only [h2, Out.thn, h3]
    simp
theorem mem_range {m : Int} {p : PV} (h : p ∈ rangeL 0 m) : ∃ j : Int, p = .int j ∧ 0 ≤ j ∧ j < m := by
  unfold rangeL at h
  obtain ⟨j, hj, rfl⟩ := List.mem_map.mp h
  have := List.mem_range.mp hj
  exact ⟨_, rfl, by omega, by omega⟩
theorem if_call {c : DE} {ρ : Rho} {b : Bool} {x y : PV} (h : c ρ = .ok (.bl b) ρ) : dIf (dTru c) (dC x) (dC y) ρ = .ok (if b then x else y) ρ := by
  cases b <;> simp [dIf, dTru, h, Res.bind, truth, ofO, dC]
/-- a cell's sign -/
def sg (r : Rg) (n m i : Int) : PV → Str
  | .int j => if r.has n m i j then "#" else "."
  | _ => ""
def rowP (r : Rg) (n m : Int) : PV → PV
  | .int i => .str (Txt.join "" ((rangeL 0 m).map (sg r n m i)))
  | _ => .non
theorem allStr_map {f : PV → Str} : ∀ l : List PV, allStr (l.map fun p => .str (f p)) = some (l.map f)
  | [] => rfl
  | p :: l => by
    simp only [List.map_cons, allStr, allStr_map l, Option.map_some]
theorem sum_le {f : PV → Nat} (k : Nat) (h : ∀ p, f p ≤ k) : ∀ l : List PV, (l.map f).sum ≤ k * l.length
  | [] => by simp
  | p :: l => by
    have := sum_le k h l
    have := h p
    simp only [List.map_cons, List.sum_cons, List.length_cons, Nat.mul_add]
    omega
theorem sg_len (r : Rg) (n m i : Int) (p : PV) : (sg r n m i p).length ≤ 1 := by
  cases p with
  | int j =>
    show Str.length (if r.has n m i j = true then "#" else ".") ≤ 1
    by_cases h : r.has n m i j = true
    · rw [if_pos h]; decide
    · rw [if_neg h]; decide
  | _ => exact Nat.zero_le _
theorem join_row (r : Rg) (n m i : Int) (hm : m ≤ 100) : pJoin (.str "") (.lst ((rangeL 0 m).map fun p => .str (sg r n m i p))) = some (rowP r n m (.int i)) := by
  unfold pJoin
  simp only [allStr_map]
  have h1 := sum_le 1 (sg_len r n m i) (rangeL 0 m)
  have h2 := rangeL_length 0 m
  rw [if_pos]
  · rfl
  · have h3 : (("" : Str)).length = 0 := by decide
    rw [h3, List.map_map]
    have h4 : (List.map (fun x : Str => x.length) ((rangeL 0 m).map (sg r n m i))).sum ≤ 100 := by
      rw [List.map_map]
      have : (rangeL 0 m).length ≤ 100 := by omega
      exact Nat.le_trans h1 (by omega)
    rw [List.map_map] at h4
    have : LIM = 1000000 := rfl
    omega
theorem joinS_ok {d : DE} {ρ ρ' : Rho} {x y : PV} (h : d ρ = .ok x ρ') (hj : pJoin (.str "") x = some y) : dBinS pJoin (dC (.str "")) d ρ = .ok y ρ' := by
  simp [dBinS, dC, isStr, h, hj, Res.bind, ofO]

theorem for_nx {g : Tg} {di : DD (List PV)} {d : DS} {ρ ρ' : Rho} {ps : List PV} (h1 : di ρ = .ok ps ρ) (h2 : forL g d ps ρ = .nx ρ') : sFor g di d ρ = .nx ρ' := by
  simp [sFor, h1, h2, Res.toOut]
theorem sg_if (r : Rg) (n m i j : Int) (ρ : Rho) : (Res.ok (if r.has n m i j = true then PV.str "#" else PV.str ".") ρ) = Res.ok (PV.str (sg r n m i (.int j))) ρ := by
  show Res.ok (if r.has n m i j = true then PV.str "#" else PV.str ".") ρ = Res.ok (PV.str (if r.has n m i j = true then "#" else ".")) ρ
  by_cases q : r.has n m i j = true
  · rw [if_pos q, if_pos q]
  · rw [if_neg q, if_neg q]
theorem range1_ok {d : DE} {ρ : Rho} {m : Int} (h : d ρ = .ok (.int m) ρ) (h1 : 0 ≤ m) (h2 : m ≤ 1000) : dRange1 (dCons d dNil) ρ = .ok (rangeL 0 m) ρ := by
  have g : -4611686018427387904 ≤ m ∧ m < 4611686018427387904 := by omega
  simp [dRange1, dCons, dNil, h, Res.bind, g]
/-- the rows that drawn tells -/
def rowsP (r : Rg) (n m : Int) : PV := .lst ((rangeL 0 n).map (rowP r n m))
theorem drawn_ (r : Rg) (ok : r.Ok) (h : r.dep ≤ 8) (e : Nat) {n m : Int} (h1 : 1 ≤ n) (h2 : n ≤ 60) (h3 : 1 ≤ m) (h4 : m ≤ 60) : (env (e + 25)).p_drawn [r.pv, .int n, .int m] = .ok (rowsP r n m) := by
  show runB 6 (d_drawn (env (e + 24))) _ = _
  have w0 := check_region r ok (e + 20 - r.dep) h
  rw [show e + 20 - r.dep + r.dep + 4 = e + 24 from by omega] at w0
  have w1 := check_small (e + 22) (n := n) (m := m) h1 (by omega) h3 (by omega)
  have w2 : ∀ i j, (env (e + 24)).p_cell_has [r.pv, .int n, .int m, .int i, .int j] = .ok (.bl (r.has n m i j)) := fun i j => by
    have w2 := cell_has r ok (e + 24 - 3 * r.dep) n m i j
    rw [show e + 24 - 3 * r.dep + 3 * r.dep = e + 24 from by omega] at w2
    exact w2
  revert w0 w1 w2
  rw [show e + 22 + 2 = e + 24 from rfl]
  generalize env (e + 24) = E
  intro w0 w1 w2
  refine Eq.trans (run_expr 6 [r.pv, .int n, .int m] (Eq.trans ?_ (call_ok w0))) (Eq.trans (run_expr 6 [r.pv, .int n, .int m] (Eq.trans ?_ (call_ok w1))) ?_)
  · kernel_rfl
  · kernel_rfl
  have lp := forL_own (g := .one 4) (σ := Option SV) (row := rowP r n m) (all := rangeL 0 n) (mk := fun acc s => [some (.val r.pv), some (.val (.int n)), some (.val (.int m)), some (.own (.lst acc)), s, none])
    (d := sApp' 3 (dBinS pJoin (dC (.str "")) (dComp [5] (.one 5) (dRange1 (dCons (dVar 2) dNil)) tyesD (dIf (dTru (dCall E.p_cell_has (dCons (dVar 0) (dCons (dVar 1) (dCons (dVar 2) (dCons (dVar 4) (dCons (dVar 5) dNil))))))) (dC (.str "#")) (dC (.str "."))))))
    (fun acc s p hp hl => by
      obtain ⟨i, rfl, hi, hi2⟩ := mem_range hp
      refine ⟨_, some (.val (.int i)), rfl, ?_⟩
      have c := comp_map (ρ := [some (.val r.pv), some (.val (.int n)), some (.val (.int m)), some (.own (.lst acc)), some (.val (.int i)), none]) (vs := [5]) (g := .one 5) (di := dRange1 (dCons (dVar 2) dNil)) (ps := rangeL 0 m) (y := fun p => .str (sg r n m i p))
        (body := dIf (dTru (dCall E.p_cell_has (dCons (dVar 0) (dCons (dVar 1) (dCons (dVar 2) (dCons (dVar 4) (dCons (dVar 5) dNil))))))) (dC (.str "#")) (dC (.str ".")))
        (range1_ok rfl (by omega) (by omega))
        (by have := rangeL_length 0 m; have : LIM = 1000000 := rfl; omega)
        (fun p hp => by
          obtain ⟨j, rfl, _, _⟩ := mem_range hp
          have hc : dCall E.p_cell_has (dCons (dVar 0) (dCons (dVar 1) (dCons (dVar 2) (dCons (dVar 4) (dCons (dVar 5) dNil))))) [some (.val r.pv), some (.val (.int n)), some (.val (.int m)), none, some (.val (.int i)), some (.val (.int j))] = .ok (.bl (r.has n m i j)) [some (.val r.pv), some (.val (.int n)), some (.val (.int m)), none, some (.val (.int i)), some (.val (.int j))] :=
            Eq.trans (by kernel_rfl) (call_ok (w2 i j))
          exact ⟨_, rfl, _, Eq.trans (if_call hc) (sg_if r n m i j _)⟩)
      have c2 := joinS_ok c (join_row r n m i (by omega))
      have hl2 : acc.length < LIM := by have : LIM = 1000000 := rfl; omega
      simp [sApp', sApp, isLstM, slotM, putM, c2, Res.toOut, hl2])
  obtain ⟨s', hs⟩ := lp (rangeL 0 n) [] none (fun _ q => q) (by have := rangeL_length 0 n; simp; omega)
  unfold runB
  rw [show ([r.pv, .int n, .int m].map (fun p => some (SV.val p)) ++ List.replicate (6 - [r.pv, PV.int n, PV.int m].length) none) = st0 6 [r.pv, .int n, .int m] from rfl]
  rw [seq_nx (ρ' := [some (.val r.pv), some (.val (.int n)), some (.val (.int m)), some (.own (.lst [])), none, none]) (by kernel_rfl)]
  have rg : dRange1 (dCons (dVar 1) dNil) [some (.val r.pv), some (.val (.int n)), some (.val (.int m)), some (.own (.lst [])), none, none] = .ok (rangeL 0 n) [some (.val r.pv), some (.val (.int n)), some (.val (.int m)), some (.own (.lst [])), none, none] := by
    exact range1_ok rfl (by omega) (by omega)
  have hf := for_nx rg hs
  rw [seq_nx hf]
  rfl
end Pl

set_option maxHeartbeats 4000000
/-! S9: the law's own body (printed). -/
namespace Pl
open PySem PySem.Spec PyProof.Rows L2
def odds : List PV := [.non, .str "all", .tup [.str "all", .int 1], .tup [.str "rows", .int 1], .tup [.str "rows", .int (-1), .int 1], .tup [.str "rows", .int 10, .int 1], .tup [.str "rows", .int 1, .int 7], .tup [.str "border"], .tup [.str "not", .tup [.str "not", .tup [.str "not", .tup [.str "not", .tup [.str "not", .tup [.str "not", .tup [.str "not", .tup [.str "not", .tup [.str "all"]]]]]]]]], .tup [.str "and", .tup [.str "all"]], .tup [.str "not", .tup [.str "all"], .tup [.str "all"]], .tup [.str "move", .int 7, .int 0, .tup [.str "all"]], .tup [.str "move", .int 1, .tup [.str "all"]], .lst [.str "all"], .tup [.str "high", .bl true], .tup [.str "Rows", .int 1, .int 1], .tup [.str "or", .tup [.str "all"], .non], .tup [], .tup [.str "turn"], .tup [.str "rows", .int 1, .bl true], .tup [.tup [.str "all"]]]
def places : List PV := [.tup [.int 0, .int 2, .int 0, .int 0], .tup [.int 2, .int 0, .int 0, .int 0], .tup [.int 2, .int 2, .int 2, .int 0], .tup [.int 2, .int 2, .int 0, .int 2], .tup [.int 2, .int 2, .int (-1), .int 0], .tup [.int 2, .int 2, .int 0, .non], .tup [.bl true, .int 2, .int 0, .int 0]]
/-- what is no region is none, and refused -/
theorem odd_ok : ∀ p ∈ odds, (env 60).p_is_region [p] = .ok (.bl false) ∧ (env 60).p_l_refused [p, .int 2, .int 2, .int 0, .int 0] = .ok (.str "region") := by
  intro p hp
  unfold odds at hp
  simp only [List.mem_cons, List.mem_nil_iff, or_false] at hp
  rcases hp with rfl | rfl | rfl | rfl | rfl | rfl | rfl | rfl | rfl | rfl | rfl | rfl | rfl | rfl | rfl | rfl | rfl | rfl | rfl | rfl | rfl
  · exact ⟨by kernel_rfl, by kernel_rfl⟩
  · exact ⟨by kernel_rfl, by kernel_rfl⟩
  · exact ⟨by kernel_rfl, by kernel_rfl⟩
  · exact ⟨by kernel_rfl, by kernel_rfl⟩
  · exact ⟨by kernel_rfl, by kernel_rfl⟩
  · exact ⟨by kernel_rfl, by kernel_rfl⟩
  · exact ⟨by kernel_rfl, by kernel_rfl⟩
  · exact ⟨by kernel_rfl, by kernel_rfl⟩
  · exact ⟨by kernel_rfl, by kernel_rfl⟩
  · exact ⟨by kernel_rfl, by kernel_rfl⟩
  · exact ⟨by kernel_rfl, by kernel_rfl⟩
  · exact ⟨by kernel_rfl, by kernel_rfl⟩
  · exact ⟨by kernel_rfl, by kernel_rfl⟩
  · exact ⟨by kernel_rfl, by kernel_rfl⟩
  · exact ⟨by kernel_rfl, by kernel_rfl⟩
  · exact ⟨by kernel_rfl, by kernel_rfl⟩
  · exact ⟨by kernel_rfl, by kernel_rfl⟩
  · exact ⟨by kernel_rfl, by kernel_rfl⟩
  · exact ⟨by kernel_rfl, by kernel_rfl⟩
  · exact ⟨by kernel_rfl, by kernel_rfl⟩
  · exact ⟨by kernel_rfl, by kernel_rfl⟩
theorem place_ok (r : Rg) (ok : r.Ok) (h : r.dep ≤ 8) : ∀ p ∈ places, ∃ n m i j, p = .tup [n, m, i, j] ∧ (env 60).p_l_refused [r.pv, n, m, i, j] = .ok (.str "sheet") := by
  intro p hp
  unfold places at hp
  simp only [List.mem_cons, List.mem_nil_iff, or_false] at hp
  rcases hp with rfl | rfl | rfl | rfl | rfl | rfl | rfl
  · exact ⟨_, _, _, _, rfl, refused_x 34 (has_x r ok h 34 (by kernel_rfl))⟩
  · exact ⟨_, _, _, _, rfl, refused_x 34 (has_x r ok h 34 (by kernel_rfl))⟩
  · exact ⟨_, _, _, _, rfl, refused_x 34 (has_x r ok h 34 (by kernel_rfl))⟩
  · exact ⟨_, _, _, _, rfl, refused_x 34 (has_x r ok h 34 (by kernel_rfl))⟩
  · exact ⟨_, _, _, _, rfl, refused_x 34 (has_x r ok h 34 (by kernel_rfl))⟩
  · exact ⟨_, _, _, _, rfl, refused_x 34 (has_x r ok h 34 (by kernel_rfl))⟩
  · exact ⟨_, _, _, _, rfl, refused_x 34 (has_x r ok h 34 (by kernel_rfl))⟩
theorem callI_ok2 {f : PV → List PV → FRI} {d : DD (List PV)} {ρ ρ1 : Rho} {i : Nat} {c c' r : PV} {xs : List PV} (hs0 : (slotM ρ i).isSome = true) (hd : d ρ = .ok xs ρ1) (hs : slotM ρ1 i = some c) (h : f c xs = .ok r c') : dCallI i f d ρ = .ok r (putM ρ1 i c') := by
  simp [dCallI, hs0, hs, hd, h, Res.bind]
theorem asg_nx {g : Tg} {d : DE} {ρ ρ1 ρ2 : Rho} {x : PV} (h : d ρ = .ok x ρ1) (hg : g.set x ρ1 = some ρ2) : sAsg g d ρ = .nx ρ2 := by
  simp [sAsg, h, hg, Res.toOut]
def LS (ns : List Int) (c : PV) (xs : List (Option SV)) : Rho := some (.val (.scr ns)) :: some (.own c) :: xs
/-! ### lists of texts are the same as themselves -/
theorem eqv_strs : ∀ l : List Str, PyData.eqvAll (pdts (l.map PV.str)) (pdts (l.map PV.str)) = true
  | [] => rfl
  | x :: l => by
    show (PyData.eqv (.str x) (.str x) && PyData.eqvAll (pdts (l.map PV.str)) (pdts (l.map PV.str))) = true
    rw [eqv_strs l]
    show ((x == x) && true) = true
    simp
end Pl

set_option maxHeartbeats 4000000
/-! S10: the rows told are the same as the rows reckoned. -/
namespace Pl
open PySem PySem.Spec PyProof.Rows L2
theorem strOk_app (a b : Str) (h1 : PyData.strOk a = true) (h2 : PyData.strOk b = true) : PyData.strOk (a ++ b) = true := by
  unfold PyData.strOk at *
  show (a.cps ++ b.cps).all (· < 0x110000) = true
  rw [Array.all_append, h1, h2]
  rfl
theorem strOk_join (y : Str) (hy : PyData.strOk y = true) : ∀ parts : List Str, (∀ p ∈ parts, PyData.strOk p = true) → PyData.strOk (Str.join y parts) = true
  | [], _ => by kernel_rfl
  | [x], h => h x List.mem_cons_self
  | x :: z :: r, h => strOk_app _ _ (strOk_app _ _ (h x List.mem_cons_self) hy) (strOk_join y hy (z :: r) fun p hp => h p (List.mem_cons_of_mem _ hp))
theorem sg_ok (r : Rg) (n m i : Int) (p : PV) : PyData.strOk (sg r n m i p) = true := by
  cases p with
  | int j =>
    show PyData.strOk (if r.has n m i j = true then "#" else ".") = true
    by_cases h : r.has n m i j = true
    · rw [if_pos h]; kernel_rfl
    · rw [if_neg h]; kernel_rfl
  | _ => kernel_rfl
theorem strs_shaped : ∀ l : List Str, (∀ p ∈ l, PyData.strOk p = true) → PyData.canLayAll0 (pdts (l.map PV.str)) = true ∧ PyData.depthAll (pdts (l.map PV.str)) = 0
  | [], _ => ⟨rfl, rfl⟩
  | x :: l, h => by
    obtain ⟨h1, h2⟩ := strs_shaped l fun p hp => h p (List.mem_cons_of_mem _ hp)
    refine ⟨?_, ?_⟩
    · show (PyData.strOk x && PyData.canLayAll0 (pdts (l.map PV.str))) = true
      rw [h1, h x List.mem_cons_self]
      rfl
    · show max 0 (PyData.depthAll (pdts (l.map PV.str))) = 0
      rw [h2]
      rfl
theorem ne_strs (l : List Str) (h : ∀ p ∈ l, PyData.strOk p = true) : pNe (.lst (l.map PV.str)) (.lst (l.map PV.str)) = some (.bl false) := by
  obtain ⟨h1, h2⟩ := strs_shaped l h
  have hs : SeqAt.shaped (pdt (.lst (l.map PV.str))) = true := by
    show (PyData.canLayAll0 (pdts (l.map PV.str)) && decide (PyData.depthAll (pdts (l.map PV.str)) + 1 ≤ 64)) = true
    rw [h1, h2]
    rfl
  unfold pNe
  rw [if_pos ⟨hs, hs⟩]
  show some (PV.bl (!PyData.eqvAll (pdts (l.map PV.str)) (pdts (l.map PV.str)))) = _
  rw [eqv_strs]
  rfl
def rowS (r : Rg) (n m : Int) : PV → Str
  | .int i => Txt.join "" ((rangeL 0 m).map (sg r n m i))
  | _ => ""
theorem rows_strs (r : Rg) (n m : Int) : rowsP r n m = .lst (((rangeL 0 n).map (rowS r n m)).map PV.str) := by
  unfold rowsP
  rw [List.map_map]
  congr 1
  apply List.map_congr_left
  intro p hp
  obtain ⟨i, rfl, _, _⟩ := mem_range hp
  rfl
theorem rows_ne (r : Rg) (n m : Int) : pNe (rowsP r n m) (rowsP r n m) = some (.bl false) := by
  rw [rows_strs]
  refine ne_strs _ fun p hp => ?_
  obtain ⟨q, hq, rfl⟩ := List.mem_map.mp hp
  cases q with
  | int i =>
    show PyData.strOk (Txt.join "" ((rangeL 0 m).map (sg r n m i))) = true
    rw [show Txt.join "" ((rangeL 0 m).map (sg r n m i)) = Str.join "" ((rangeL 0 m).map (sg r n m i)) from TL.join_eq _ _]
    refine strOk_join _ (by kernel_rfl) _ fun p hp => ?_
    obtain ⟨q, hq, rfl⟩ := List.mem_map.mp hp
    exact sg_ok r n m i q
  | _ => kernel_rfl
end Pl

set_option maxHeartbeats 4000000
/-! S11: the law. -/
namespace Pl
open PySem PySem.Spec PyProof.Rows L2
theorem pick_in {l : List PV} {k : Int} (h1 : 0 ≤ k) (h2 : k < l.length) : ∃ p ∈ l, pIx (.lst l) (.int k) = some p := by
  obtain ⟨j, rfl⟩ : ∃ j : Nat, k = j := ⟨k.toNat, by omega⟩
  have hj : j < l.length := by omega
  refine ⟨l[j], List.getElem_mem hj, ?_⟩
  simp [pIx, atI, ixN, hj]
theorem orif_f {d u : DD Bool} {ρ ρ1 ρ2 : Rho} (h1 : d ρ = .ok false ρ1) (h2 : u ρ1 = .ok false ρ2) : dOr d u ρ = .ok false ρ2 := by
  simp [dOr, h1, h2, Res.bind]
theorem ifs_ff {t : DD Bool} {a b : DS} {ρ ρ1 : Rho} (h : t ρ = .ok false ρ1) : sIf t a b ρ = b ρ1 := by
  simp [sIf, h, Res.toOut]
theorem asB_ok {d : DE} {ρ ρ1 : Rho} {b : Bool} (h : d ρ = .ok (.bl b) ρ1) : dAsB d ρ = .ok b ρ1 := by
  simp [dAsB, h, Res.bind, asB, ofO]
theorem not_f1 {d : DE} {ρ ρ1 : Rho} (h : d ρ = .ok (.bl true) ρ1) : dNot (dTru d) ρ = .ok false ρ1 := by
  simp [dNot, dTru, h, Res.bind, truth, ofO]
theorem tru_f {d : DE} {ρ ρ1 : Rho} (h : d ρ = .ok (.bl false) ρ1) : dTru d ρ = .ok false ρ1 := by
  simp [dTru, h, Res.bind, truth, ofO]
theorem ne_bl (b : Bool) : pNe (.bl b) (.bl b) = some (.bl false) := by cases b <;> rfl
end Pl

set_option maxHeartbeats 4000000
/-! S12: the law (printed). -/
namespace Pl
open PySem PySem.Spec PyProof.Rows L2
theorem callO_nx {i : Nat} {f : List PV → Option PV} {d : DD (List PV)} {ρ : Rho} {xs : List PV} {c : PV} (h : d ρ = .ok xs ρ) (hf : f xs = some c) : sCallO i f d ρ = .nx (ρ.set i (some (.own c))) := by
  simp [sCallO, h, hf, Res.toOut]
theorem law_ok (ns : List Int) : (env 61).p_law_k01 [.scr ns] = .ok (.bl true) := by
  have hb : (env 60).o_l_begin [.scr ns] = some (Sd ns 0 0 7) := by kernel_rfl
  have dr : ∀ c, IsSd ns c → ∀ size : Int, 0 < size → size < 1000 → ∃ r c', (env 60).i_l_draw c [.int size] = .ok (.int r) c' ∧ IsSd ns c' ∧ 0 ≤ r ∧ r < size := fun c hc size h1 h2 => draw_ok ns hc 59 h1 h2
  obtain ⟨d0, c1, h1, i1, l1, u1⟩ := dr (Sd ns 0 0 7) ⟨0, 0, 7, by omega, rfl⟩ 5 (by omega) (by omega)
  obtain ⟨D, rfl⟩ : ∃ D : Nat, d0 = (D : Int) := ⟨d0.toNat, by omega⟩
  obtain ⟨r, c2, h2, i2, ok, dp⟩ := region_ok ns D (57 - D) i1
  rw [show 57 - D + D + 3 = 60 from by omega, Int.add_comm] at h2
  have dep8 : r.dep ≤ 8 := by omega
  obtain ⟨n0, c3, h3, i3, l3, u3⟩ := dr c2 i2 9 (by omega) (by omega)
  obtain ⟨m0, c4, h4, i4, l4, u4⟩ := dr c3 i3 9 (by omega) (by omega)
  generalize hn : 1 + n0 = n at *
  generalize hm : 1 + m0 = m at *
  obtain ⟨i, c5, h5, i5, l5, u5⟩ := dr c4 i4 n (by omega) (by omega)
  obtain ⟨j, c6, h6, i6, l6, u6⟩ := dr c5 i5 m (by omega) (by omega)
  obtain ⟨t, c7, h7, i7, l7, u7⟩ := dr c6 i6 21 (by omega) (by omega)
  obtain ⟨q, c8, h8, i8, l8, u8⟩ := dr c7 i7 7 (by omega) (by omega)
  obtain ⟨th, thm, tht⟩ := pick_in (l := odds) l7 u7
  obtain ⟨pl, plm, plt⟩ := pick_in (l := places) l8 u8
  obtain ⟨od1, od2⟩ := odd_ok th thm
  obtain ⟨pn, pm, pi, pj, rfl, hp⟩ := place_ok r ok dep8 pl plm
  have lh : ∀ i j, (env 60).p_l_has [r.pv, .int n, .int m, .int i, .int j] = .ok (.bl (r.has n m i j)) := fun i j => by
    have z := l_has r ok (59 - r.dep) n m i j
    rw [show 59 - r.dep + r.dep + 1 = 60 from by omega] at z
    exact z
  have dw := drawn_ r ok dep8 35 (n := n) (m := m) (by omega) (by omega) (by omega) (by omega)
  have ir : (env 60).p_is_region [r.pv] = .ok (.bl true) := by
    have z := is_region r ok (57 - r.dep) dep8
    rw [show 57 - r.dep + r.dep + 3 = 60 from by omega] at z
    exact z
  have hh := has_ r ok dep8 35 (n := n) (m := m) (i := i) (j := j) (by omega) (by omega) (by omega) (by omega) l5 u5 l6 u6
  show runB 14 (d_law_k01 (env 60)) [.scr ns] = _
  revert hb h1 h2 h3 h4 h5 h6 h7 h8 od1 od2 hp lh dw ir hh
  rw [show 35 + 25 = 60 from rfl]
  clear dr
  generalize env 60 = E
  intro hb h1 h2 h3 h4 h5 h6 h7 h8 od1 od2 hp lh dw ir hh
  unfold runB
  rw [show ([PV.scr ns].map (fun p => some (SV.val p)) ++ List.replicate (14 - [PV.scr ns].length) none) = st0 14 [.scr ns] from rfl]
  suffices h : ∃ ρ, d_law_k01 E (st0 14 [.scr ns]) = .rt (.bl true) ρ by
    obtain ⟨ρ, h⟩ := h
    rw [h]
  unfold d_law_k01
  have z1 : ∀ (d t : DS) (a b : Rho), d a = .nx b → (∃ ρ, t b = .rt (.bl true) ρ) → ∃ ρ, sSeq d t a = .rt (.bl true) ρ := fun d t a b h ⟨ρ, g⟩ => ⟨ρ, Eq.trans (seq_nx h) g⟩
  refine z1 _ _ _ (LS ns (Sd ns 0 0 7) [none, none, none, none, none, none, none, none, none, none, none, none]) ?_ ?_
  · exact Eq.trans (callO_nx (xs := [.scr ns]) rfl hb) rfl
  refine z1 _ _ _ (LS ns c2 [some (.val r.pv), none, none, none, none, none, none, none, none, none, none, none]) ?_ ?_
  · exact Eq.trans (set_nx (callI_ok2 rfl (cons_ok (bin_ok rfl (callI_ok2 rfl rfl rfl h1) rfl) rfl) rfl h2)) rfl
  refine z1 _ _ _ (LS ns c4 [some (.val r.pv), some (.val (.int n)), some (.val (.int m)), none, none, none, none, none, none, none, none, none]) ?_ ?_
  · exact asg_nx (tup_ok (cons_ok (bin_ok rfl (callI_ok2 rfl rfl rfl h3) rfl) (cons_ok (bin_ok rfl (callI_ok2 rfl rfl rfl h4) rfl) rfl)) (by simp)) (by rw [hn, hm]; rfl)
  refine z1 _ _ _ (LS ns c4 [some (.val r.pv), some (.val (.int n)), some (.val (.int m)), some (.own (.lst [])), none, none, none, none, none, none, none, none]) ?_ ?_
  · rfl

  have lp := forL_own (g := .one 6) (σ := Option SV × Option SV) (row := rowP r n m) (all := rangeL 0 n) (mk := fun acc s => LS ns c4 [some (.val r.pv), some (.val (.int n)), some (.val (.int m)), some (.own (.lst acc)), s.1, s.2, none, none, none, none, none, none])
    (d := (sSeq (sSet 7 (dComp [8] (.one 8) (dRange1 (dCons (dVar 4) dNil)) tyesD (dIf (dTru (dCall E.p_l_has (dCons (dVar 2) (dCons (dVar 3) (dCons (dVar 4) (dCons (dVar 6) (dCons (dVar 8) dNil))))))) (dC (.str "#")) (dC (.str "."))))) (sApp' 5 (dBinS pJoin (dC (.str "")) (dVar 7)))))
    (fun acc s p hp hl => by
      obtain ⟨i, rfl, hi, hi2⟩ := mem_range hp
      refine ⟨_, (some (.val (.int i)), some (.val (.lst ((rangeL 0 m).map fun p => .str (sg r n m i p))))), rfl, ?_⟩
      have c := comp_map (ρ := LS ns c4 [some (.val r.pv), some (.val (.int n)), some (.val (.int m)), some (.own (.lst acc)), some (.val (.int i)), s.2, none, none, none, none, none, none]) (vs := [8]) (g := .one 8) (di := dRange1 (dCons (dVar 4) dNil)) (ps := rangeL 0 m) (y := fun p => .str (sg r n m i p))
        (body := dIf (dTru (dCall E.p_l_has (dCons (dVar 2) (dCons (dVar 3) (dCons (dVar 4) (dCons (dVar 6) (dCons (dVar 8) dNil))))))) (dC (.str "#")) (dC (.str ".")))
        (range1_ok rfl (by omega) (by omega))
        (by have := rangeL_length 0 m; have : LIM = 1000000 := rfl; omega)
        (fun p hp => by
          obtain ⟨j, rfl, _, _⟩ := mem_range hp
          obtain ⟨ρ1, h1⟩ : ∃ ρ1, (Tg.one 8).set (.int j) (wipeR (valsOf (LS ns c4 [some (.val r.pv), some (.val (.int n)), some (.val (.int m)), some (.own (.lst acc)), some (.val (.int i)), s.2, none, none, none, none, none, none])) [8]) = some ρ1 := ⟨_, rfl⟩
          refine ⟨ρ1, h1, ρ1, ?_⟩
          have hc : dCall E.p_l_has (dCons (dVar 2) (dCons (dVar 3) (dCons (dVar 4) (dCons (dVar 6) (dCons (dVar 8) dNil))))) ρ1 = .ok (.bl (r.has n m i j)) ρ1 := by
            cases h1
            exact Eq.trans (by kernel_rfl) (call_ok (lh i j))
          exact Eq.trans (if_call hc) (sg_if r n m i j _))
      refine Eq.trans (seq_nx (set_nx c)) ?_
      have hl2 : acc.length < LIM := by have : LIM = 1000000 := rfl; omega
      have c2 : dBinS pJoin (dC (.str "")) (dVar 7) (LS ns c4 [some (.val r.pv), some (.val (.int n)), some (.val (.int m)), some (.own (.lst acc)), some (.val (.int i)), some (.val (.lst ((rangeL 0 m).map fun p => .str (sg r n m i p)))), none, none, none, none, none, none]) = .ok (rowP r n m (.int i)) (LS ns c4 [some (.val r.pv), some (.val (.int n)), some (.val (.int m)), some (.own (.lst acc)), some (.val (.int i)), some (.val (.lst ((rangeL 0 m).map fun p => .str (sg r n m i p)))), none, none, none, none, none, none]) := joinS_ok rfl (join_row r n m i (by omega))
      show sApp' 5 _ (LS ns c4 [some (.val r.pv), some (.val (.int n)), some (.val (.int m)), some (.own (.lst acc)), some (.val (.int i)), some (.val (.lst ((rangeL 0 m).map fun p => .str (sg r n m i p)))), none, none, none, none, none, none]) = _
      unfold sApp' sApp
      rw [c2]
      show (if acc.length < LIM then _ else _) = _
      rw [if_pos hl2]
      rfl)
  obtain ⟨⟨s1, s2⟩, hs⟩ := lp (rangeL 0 n) [] (none, none) (fun _ q => q) (by have := rangeL_length 0 n; simp; omega)
  refine z1 _ _ _ (LS ns c4 [some (.val r.pv), some (.val (.int n)), some (.val (.int m)), some (.own (.lst ((rangeL 0 n).map (rowP r n m)))), s1, s2, none, none, none, none, none, none]) ?_ ?_
  · exact for_nx (range1_ok rfl (by omega) (by omega)) hs
  refine z1 _ _ _ (LS ns c4 [some (.val r.pv), some (.val (.int n)), some (.val (.int m)), some (.val (rowsP r n m)), s1, s2, none, none, none, none, none, none]) ?_ ?_
  · refine ifs_ff (orif_f (asB_ok (bin_ok (Eq.trans (b := dCall E.p_drawn (dVs [r.pv, .int n, .int m]) (LS ns c4 [some (.val r.pv), some (.val (.int n)), some (.val (.int m)), some (.own (.lst ((rangeL 0 n).map (rowP r n m)))), s1, s2, none, none, none, none, none, none])) (by kernel_rfl) (call_ok dw)) rfl (rows_ne r n m))) (not_f1 (Eq.trans (b := dCall E.p_is_region (dVs [r.pv]) (LS ns c4 [some (.val r.pv), some (.val (.int n)), some (.val (.int m)), some (.val (rowsP r n m)), s1, s2, none, none, none, none, none, none])) (by kernel_rfl) (call_ok ir))))
  refine z1 _ _ _ (LS ns c6 [some (.val r.pv), some (.val (.int n)), some (.val (.int m)), some (.val (rowsP r n m)), some (.val (.int i)), s2, some (.val (.int j)), none, none, none, none, none]) ?_ ?_
  · exact asg_nx (tup_ok (cons_ok (callI_ok2 rfl rfl rfl h5) (cons_ok (callI_ok2 rfl rfl rfl h6) rfl)) (by simp)) rfl
  refine z1 _ _ _ (LS ns c6 [some (.val r.pv), some (.val (.int n)), some (.val (.int m)), some (.val (rowsP r n m)), some (.val (.int i)), s2, some (.val (.int j)), none, none, none, none, none]) ?_ ?_
  · exact ifs_ff (asB_ok (bin_ok (Eq.trans (b := dCall E.p_has (dVs [r.pv, .int n, .int m, .int i, .int j]) (LS ns c6 [some (.val r.pv), some (.val (.int n)), some (.val (.int m)), some (.val (rowsP r n m)), some (.val (.int i)), s2, some (.val (.int j)), none, none, none, none, none])) (by kernel_rfl) (call_ok hh)) (Eq.trans (b := dCall E.p_l_has (dVs [r.pv, .int n, .int m, .int i, .int j]) (LS ns c6 [some (.val r.pv), some (.val (.int n)), some (.val (.int m)), some (.val (rowsP r n m)), some (.val (.int i)), s2, some (.val (.int j)), none, none, none, none, none])) (by kernel_rfl) (call_ok (lh i j))) (ne_bl _)))
  refine z1 _ _ _ (LS ns c6 [some (.val r.pv), some (.val (.int n)), some (.val (.int m)), some (.val (rowsP r n m)), some (.val (.int i)), s2, some (.val (.int j)), some (.val (.tup [.str "all"])), none, none, none, none]) ?_ ?_
  · rfl
  refine z1 _ _ _ (LS ns c6 [some (.val r.pv), some (.val (.int n)), some (.val (.int m)), some (.val (rowsP r n m)), some (.val (.int i)), s2, some (.val (.int j)), some (.val (.tup [.str "not", .tup [.str "not", .tup [.str "not", .tup [.str "not", .tup [.str "not", .tup [.str "not", .tup [.str "not", .tup [.str "not", .tup [.str "all"]]]]]]]]])), some (.val (.int 7)), none, none, none]) ?_ ?_
  · kernel_rfl
  refine z1 _ _ _ (LS ns c6 [some (.val r.pv), some (.val (.int n)), some (.val (.int m)), some (.val (rowsP r n m)), some (.val (.int i)), s2, some (.val (.int j)), some (.val (.tup [.str "not", .tup [.str "not", .tup [.str "not", .tup [.str "not", .tup [.str "not", .tup [.str "not", .tup [.str "not", .tup [.str "not", .tup [.str "all"]]]]]]]]])), some (.val (.int 7)), some (.val (.lst [.non, .str "all", .tup [.str "all", .int 1], .tup [.str "rows", .int 1], .tup [.str "rows", .int (-1), .int 1], .tup [.str "rows", .int 10, .int 1], .tup [.str "rows", .int 1, .int 7], .tup [.str "border"]])), none, none]) ?_ ?_
  · kernel_rfl
  refine z1 _ _ _ (LS ns c6 [some (.val r.pv), some (.val (.int n)), some (.val (.int m)), some (.val (rowsP r n m)), some (.val (.int i)), s2, some (.val (.int j)), some (.val (.tup [.str "not", .tup [.str "not", .tup [.str "not", .tup [.str "not", .tup [.str "not", .tup [.str "not", .tup [.str "not", .tup [.str "not", .tup [.str "all"]]]]]]]]])), some (.val (.int 7)), some (.val (.lst [.non, .str "all", .tup [.str "all", .int 1], .tup [.str "rows", .int 1], .tup [.str "rows", .int (-1), .int 1], .tup [.str "rows", .int 10, .int 1], .tup [.str "rows", .int 1, .int 7], .tup [.str "border"], .tup [.str "not", .tup [.str "not", .tup [.str "not", .tup [.str "not", .tup [.str "not", .tup [.str "not", .tup [.str "not", .tup [.str "not", .tup [.str "all"]]]]]]]]], .tup [.str "and", .tup [.str "all"]], .tup [.str "not", .tup [.str "all"], .tup [.str "all"]], .tup [.str "move", .int 7, .int 0, .tup [.str "all"]]])), none, none]) ?_ ?_
  · kernel_rfl
  refine z1 _ _ _ (LS ns c6 [some (.val r.pv), some (.val (.int n)), some (.val (.int m)), some (.val (rowsP r n m)), some (.val (.int i)), s2, some (.val (.int j)), some (.val (.tup [.str "not", .tup [.str "not", .tup [.str "not", .tup [.str "not", .tup [.str "not", .tup [.str "not", .tup [.str "not", .tup [.str "not", .tup [.str "all"]]]]]]]]])), some (.val (.int 7)), some (.val (.lst [.non, .str "all", .tup [.str "all", .int 1], .tup [.str "rows", .int 1], .tup [.str "rows", .int (-1), .int 1], .tup [.str "rows", .int 10, .int 1], .tup [.str "rows", .int 1, .int 7], .tup [.str "border"], .tup [.str "not", .tup [.str "not", .tup [.str "not", .tup [.str "not", .tup [.str "not", .tup [.str "not", .tup [.str "not", .tup [.str "not", .tup [.str "all"]]]]]]]]], .tup [.str "and", .tup [.str "all"]], .tup [.str "not", .tup [.str "all"], .tup [.str "all"]], .tup [.str "move", .int 7, .int 0, .tup [.str "all"]], .tup [.str "move", .int 1, .tup [.str "all"]], .lst [.str "all"], .tup [.str "high", .bl true], .tup [.str "Rows", .int 1, .int 1], .tup [.str "or", .tup [.str "all"], .non], .tup []])), none, none]) ?_ ?_
  · kernel_rfl
  refine z1 _ _ _ (LS ns c6 [some (.val r.pv), some (.val (.int n)), some (.val (.int m)), some (.val (rowsP r n m)), some (.val (.int i)), s2, some (.val (.int j)), some (.val (.tup [.str "not", .tup [.str "not", .tup [.str "not", .tup [.str "not", .tup [.str "not", .tup [.str "not", .tup [.str "not", .tup [.str "not", .tup [.str "all"]]]]]]]]])), some (.val (.int 7)), some (.val (.lst odds)), none, none]) ?_ ?_
  · kernel_rfl
  refine z1 _ _ _ (LS ns c7 [some (.val r.pv), some (.val (.int n)), some (.val (.int m)), some (.val (rowsP r n m)), some (.val (.int i)), s2, some (.val (.int j)), some (.val (.tup [.str "not", .tup [.str "not", .tup [.str "not", .tup [.str "not", .tup [.str "not", .tup [.str "not", .tup [.str "not", .tup [.str "not", .tup [.str "all"]]]]]]]]])), some (.val (.int 7)), some (.val (.lst odds)), some (.val th), none]) ?_ ?_
  · exact Eq.trans (set_nx (bin_ok rfl (callI_ok2 (ρ1 := (LS ns c6 [some (.val r.pv), some (.val (.int n)), some (.val (.int m)), some (.val (rowsP r n m)), some (.val (.int i)), s2, some (.val (.int j)), some (.val (.tup [.str "not", .tup [.str "not", .tup [.str "not", .tup [.str "not", .tup [.str "not", .tup [.str "not", .tup [.str "not", .tup [.str "not", .tup [.str "all"]]]]]]]]])), some (.val (.int 7)), some (.val (.lst odds)), none, none])) (xs := [.int 21]) rfl (by kernel_rfl) rfl h7) tht)) rfl
  refine z1 _ _ _ (LS ns c7 [some (.val r.pv), some (.val (.int n)), some (.val (.int m)), some (.val (rowsP r n m)), some (.val (.int i)), s2, some (.val (.int j)), some (.val (.tup [.str "not", .tup [.str "not", .tup [.str "not", .tup [.str "not", .tup [.str "not", .tup [.str "not", .tup [.str "not", .tup [.str "not", .tup [.str "all"]]]]]]]]])), some (.val (.int 7)), some (.val (.lst odds)), some (.val th), none]) ?_ ?_
  · exact ifs_ff (orif_f (tru_f (Eq.trans (b := dCall E.p_is_region (dVs [th]) (LS ns c7 [some (.val r.pv), some (.val (.int n)), some (.val (.int m)), some (.val (rowsP r n m)), some (.val (.int i)), s2, some (.val (.int j)), some (.val (.tup [.str "not", .tup [.str "not", .tup [.str "not", .tup [.str "not", .tup [.str "not", .tup [.str "not", .tup [.str "not", .tup [.str "not", .tup [.str "all"]]]]]]]]])), some (.val (.int 7)), some (.val (.lst odds)), some (.val th), none])) (by kernel_rfl) (call_ok od1))) (asB_ok (bin_ok (Eq.trans (b := dCall E.p_l_refused (dVs [th, .int 2, .int 2, .int 0, .int 0]) (LS ns c7 [some (.val r.pv), some (.val (.int n)), some (.val (.int m)), some (.val (rowsP r n m)), some (.val (.int i)), s2, some (.val (.int j)), some (.val (.tup [.str "not", .tup [.str "not", .tup [.str "not", .tup [.str "not", .tup [.str "not", .tup [.str "not", .tup [.str "not", .tup [.str "not", .tup [.str "all"]]]]]]]]])), some (.val (.int 7)), some (.val (.lst odds)), some (.val th), none])) (by kernel_rfl) (call_ok od2)) rfl (by kernel_rfl))))
  refine z1 _ _ _ (LS ns c7 [some (.val r.pv), some (.val (.int n)), some (.val (.int m)), some (.val (rowsP r n m)), some (.val (.int i)), s2, some (.val (.int j)), some (.val (.tup [.str "not", .tup [.str "not", .tup [.str "not", .tup [.str "not", .tup [.str "not", .tup [.str "not", .tup [.str "not", .tup [.str "not", .tup [.str "all"]]]]]]]]])), some (.val (.int 7)), some (.val (.lst odds)), some (.val th), some (.own (.lst [.tup [.int 0, .int 2, .int 0, .int 0], .tup [.int 2, .int 0, .int 0, .int 0], .tup [.int 2, .int 2, .int 2, .int 0], .tup [.int 2, .int 2, .int 0, .int 2], .tup [.int 2, .int 2, .int (-1), .int 0], .tup [.int 2, .int 2, .int 0, .non]]))]) ?_ ?_
  · kernel_rfl
  refine z1 _ _ _ (LS ns c7 [some (.val r.pv), some (.val (.int n)), some (.val (.int m)), some (.val (rowsP r n m)), some (.val (.int i)), s2, some (.val (.int j)), some (.val (.tup [.str "not", .tup [.str "not", .tup [.str "not", .tup [.str "not", .tup [.str "not", .tup [.str "not", .tup [.str "not", .tup [.str "not", .tup [.str "all"]]]]]]]]])), some (.val (.int 7)), some (.val (.lst odds)), some (.val th), some (.own (.lst places))]) ?_ ?_
  · kernel_rfl
  refine z1 _ _ _ (LS ns c8 [some (.val r.pv), some (.val pn), some (.val pm), some (.val (rowsP r n m)), some (.val pi), s2, some (.val pj), some (.val (.tup [.str "not", .tup [.str "not", .tup [.str "not", .tup [.str "not", .tup [.str "not", .tup [.str "not", .tup [.str "not", .tup [.str "not", .tup [.str "all"]]]]]]]]])), some (.val (.int 7)), some (.val (.lst odds)), some (.val th), some (.val (.lst places))]) ?_ ?_
  · exact asg_nx (bin_ok (Eq.trans (b := Res.ok (.lst places) (LS ns c7 [some (.val r.pv), some (.val (.int n)), some (.val (.int m)), some (.val (rowsP r n m)), some (.val (.int i)), s2, some (.val (.int j)), some (.val (.tup [.str "not", .tup [.str "not", .tup [.str "not", .tup [.str "not", .tup [.str "not", .tup [.str "not", .tup [.str "not", .tup [.str "not", .tup [.str "all"]]]]]]]]])), some (.val (.int 7)), some (.val (.lst odds)), some (.val th), some (.val (.lst places))])) (by kernel_rfl) rfl) (callI_ok2 (ρ1 := (LS ns c7 [some (.val r.pv), some (.val (.int n)), some (.val (.int m)), some (.val (rowsP r n m)), some (.val (.int i)), s2, some (.val (.int j)), some (.val (.tup [.str "not", .tup [.str "not", .tup [.str "not", .tup [.str "not", .tup [.str "not", .tup [.str "not", .tup [.str "not", .tup [.str "not", .tup [.str "all"]]]]]]]]])), some (.val (.int 7)), some (.val (.lst odds)), some (.val th), some (.val (.lst places))])) (xs := [.int 7]) rfl (by kernel_rfl) rfl h8) plt) rfl
  exact ⟨_, ret_rt (bin_ok (Eq.trans (b := dCall E.p_l_refused (dVs [r.pv, pn, pm, pi, pj]) (LS ns c8 [some (.val r.pv), some (.val pn), some (.val pm), some (.val (rowsP r n m)), some (.val pi), s2, some (.val pj), some (.val (.tup [.str "not", .tup [.str "not", .tup [.str "not", .tup [.str "not", .tup [.str "not", .tup [.str "not", .tup [.str "not", .tup [.str "not", .tup [.str "all"]]]]]]]]])), some (.val (.int 7)), some (.val (.lst odds)), some (.val th), some (.val (.lst places))])) (by kernel_rfl) (call_ok hp)) rfl (by kernel_rfl))⟩
end Pl

open PySem in
theorem PySem.Challenge.cw_anysheet_k01_regions_on_sheets_holds : PySem.Challenge.rw_anysheet_k01_regions_on_sheets.Holds := by
  exact Pl.end_of 60 ⟨rfl, by decide, by decide⟩ fun ns _ => Pl.law_ok ns
