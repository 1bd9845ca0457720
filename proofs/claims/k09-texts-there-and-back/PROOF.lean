import PyProof.Rows.All
import Wide.All
import OpenK.AllK
import Wide.FinOn
import HandS.ForMost
import HandS.Exc
import HandS.ExcOwn
import HandS.WordsExc
import HandS.Defaults
import HandS.CallSlots
import HandS.HeadWalk
import KE.KDictKeyed
import KE.KDictWalk
import HandS.Flow
import HandS.Wide
import HandS.TupAny
import HandS.Deep
import HandS.IsInst
import HandS.More
import HandS.Text
import HandS.Strs
import HandS.HeadHook4
import HandS.Iter
import HandS.TryMany
import HandS.Zip
import HandS.FStr
import HandS.RaiseMore
import HandS.StrMore
import HandS.ForSpec
import HandS.TupMul
import PyProof.StrOps2
import PySem.Challenge.RW_anysheet_k09_texts_there_and_back
import HandS.Head2
set_option Elab.async false
set_option linter.all false
set_option maxRecDepth 100000
set_option maxHeartbeats 4000000
/-! PG: promises that hold where no repr is under way (the texts of tuples are asked for by a sort's key). -/
namespace Pl
open PySem PySem.Spec PyProof.Rows L2
/-- room, and nothing under way that a repr would notice -/
structure RoomG (k : Nat) (A : Around) : Prop extends Room k A where
  gd : A.guards = some []
theorem RoomG.mono {j k : Nat} {A : Around} (r : RoomG k A) (h : j ≤ k) : RoomG j A := ⟨r.toRoom.mono h, r.gd⟩
theorem RoomG.deeper {k : Nat} {A : Around} (r : RoomG (k + 1) A) (env : Env) : RoomG k (A.deeper env) := ⟨r.toRoom.deeper env, r.gd⟩
theorem RoomG.hu {k : Nat} {A : Around} (r : RoomG k A) : A.units + 1 < cLine := hu_of r.toRoom
/-- a def's promise, where nothing is under way -/
structure FnG (P : Program) (w : World) (K : PySem.W.Frag) (mg : Str → Option Value) (base : Heap) (CX : CXT) (k : Nat) (f : Addr) (fd : FuncData) (ps : List Str) (sp : Sp) : Prop where
  many : ∀ {vs : List V} {H : Hp} {Q : VK} {E : XK}, sp vs H Q E → vs.length = ps.length
  go : ∀ {A : Around} {out : List Env} {s : Shared} {H : Hp} {args : Args} {us : List Value} {vs : List V} {Q : VK} {E : XK}, RoomG k A → Env0 P w K mg base A out s H →
    BindsTo s fd args (ps.zip us) → Vals vs us → sp vs H Q E → codeAny (model P w) A (.call (.ref f) args) (CR CX out P w H s Q E) s
theorem FnG.of {P : Program} {w : World} {K : PySem.W.Frag} {mg : Str → Option Value} {base : Heap} {CX : CXT} {k : Nat} {f : Addr} {fd : FuncData} {ps : List Str} {sp : Sp} (F : FnOk P w K mg base CX k f fd ps sp) : FnG P w K mg base CX k f fd ps sp :=
  ⟨fun q => F.len _ _ _ _ q, fun r e b v q => F.run _ _ _ _ _ _ _ _ _ r.toRoom e b v q⟩
section
variable {X : Cx} {CX : CXT} {k : Nat} {f : Addr} {fd : FuncData} {ps : List Str} {sp : Sp} {E : L2.St → XK} {x : Str} {p pos : Pos} {e : Expr} {es : List Expr} {t : TA}
theorem run_g {pins : List (Addr × Obj)} {σ : L2.St} {H : Hp} {s : Shared} {Q : VK} {us : List Value} {vs : List V} (G : FnG X.prog X.w X.K X.mg X.base CX k f fd ps sp) (r : RoomG k X.A) (b : Binds X.K fd ps []) (out : PassesAt CX X σ (E σ))
    (I : L2.Inv X pins σ H s) (rv : Vals vs us) (q : sp vs H Q (E σ)) : wpAny (model X.prog X.w) X.A (call (.ref f) us) (EP X pins σ Q) X.xe s := by
  have many : us.length = ps.length := (rv.length.symm.trans (G.many q) : _)
  have bs := b s us I.kIn (by simpa using many)
  rw [List.append_nil] at bs
  refine wpAny_call (codeAny_mono (G.go r I.env0 bs rv q) fun res s' hres => ?_)
  match res, hres with
  | .error ex, h => exact out pins H s ex s' I h
  | .ok (.ret u), h => exact I.after h
theorem pe_callG (G : FnG X.prog X.w X.K X.mg X.base CX k f fd ps sp) (r : RoomG k X.A) (hg : Gl X x) (at_ : X.mg x = some (.ref f)) (kp : PySem.W.keepIn X.K (.ref f) = true) (b : Binds X.K fd ps []) (out : ∀ σ, PassesAt CX X σ (E σ))
    (args : PA X (e :: es) t) (hdb : (x == ("__debug__" : Str)) = false := by decide) (h1 : starEach (e :: es) X.env = (false, eval e X.env) :: starEach es X.env := by rfl) (h2 : (backTo pos (starEach es X.env)).any (·.1) = false := by rfl) :
    PE X (.Call (.Name x p) (e :: es) [] pos) (tCallS sp E t) := ⟨fun pins s σ H Q I q =>
  wpAny_Call_Name_kw (ld_glob I hg at_ (PySem.W.callWith_K (h₀ := X.base) I.ok.mod.kin kp (thn (args.run pos pins s σ H _ I q) fun us s1 ⟨vs, H1, I1, rv, q1⟩ => ⟨I1.kIn, run_g G r b (out σ) I1 rv q1⟩) h1 h2) hdb)⟩
end
/-- THE RULE of a def's body, where nothing is under way -/
theorem fun_g {CX : CXT} {P : Program} {w : World} {K : PySem.W.Frag} {mg : Str → Option Value} {base : Heap} {x qual : Str} {params : Arguments} {body : List Stmt} {scope : Scope} {f : Addr} {fd : FuncData} {N ps : List Str} {k : Nat} {sp : Sp}
    (D : FunD K x qual params body scope [] [] f fd) (S : FnScope N ps scope) (many : ∀ vs H Q E, sp vs H Q E → vs.length = ps.length)
    (walk : ∀ (cdv : Value) (A : Around) (out : List Env) (s : Shared) (H : Hp) (vs : List V) (Q : VK) (E : XK), RoomG k (A.deeper (envOfC qual scope s.heap.objs.size f cdv)) → sp vs H Q E →
      ∃ t, PSs (cxOf CX P w K mg base N qual scope f cdv A out s H E) body t ∧ t { nx := fun _ H' => Q .non H', rt := Q } (start N vs) H) : FnG P w K mg base CX (k + 1) f fd ps sp := by
  obtain ⟨oc, od, dV, kV, doc, pm, an, cdv, ct, osl, e, lk, hcd, _, _⟩ := D.ex
  subst e
  constructor
  · exact fun q => many _ _ _ _ q
  · intro A out s H args us vs Q E r e0 bs rv q
    have there := fun b o h => (e0.bs b o h).1
    have par : ∀ y ∈ ps.zip us, scope.names.lookup y.1 = some .local ∨ (scope.names.lookup y.1 = some .cell ∧ ((cellsFrom (s.heap.objs.size + 1) scope.names []).lookup y.1).isSome = true) := by
      rintro ⟨n, v⟩ hy
      exact (S.par n (List.of_mem_zip hy).1).imp id fun c => ⟨c, PySem.W.cellsFrom_some _ _ _ (.inl c)⟩
    refine codeAny_call_function r.depth (e0.mod.kin.keeps there _ _ lk) rfl S.co S.gen rfl (PySem.W.codeRec_of (e0.mod.kin.keeps there) hcd) (bs _ _ _ _ ?_)
    refine wpAny_newFunctionEnv_cells S.kind par fun env he s1 y => ?_
    subst he
    refine ⟨(e0.mod.nolimit.keeps there).keeps y.toInCall.keep, codeAny_func ?_⟩
    obtain ⟨t, ht, hq⟩ := walk cdv A out s H vs Q E (r.deeper _) q
    have I := inv_start (CX := CX) (E := E) S r.hd e0 (many _ _ _ _ q) rv y
    refine wpAny_mono (ht.run [] s1 (start N vs) H _ I hq) (fun fl s' hs => ?_) fun _ _ hs => hs
    match fl, hs with
    | .ret u, ⟨v, σ', H', J, rv', q'⟩ => exact ⟨v, H', J.os, J.bare, J.base, J.hok, rv', q'⟩
    | .next, ⟨σ', H', J, q'⟩ => exact ⟨V.non, H', J.os, J.bare, J.base, J.hok, rfl, q'⟩
    | .brk, ⟨_, _, _, q'⟩ => exact False.elim q'
    | .cont, ⟨_, _, _, q'⟩ => exact False.elim q'
end Pl
namespace Pl
open PySem PySem.Spec PyProof.Rows L2
section
variable {P : Program} {w : World} {K : PySem.W.Frag} {mg mb : Str → Option Value} {CX : CXT} {k : Nat} {fa a : Addr} {fd : FuncData} {x : Str} {sp : Sp} {t : Shared} {vs : List Value} {ns : List Int}
/-- what the law's call must end with -/
abbrev EndsTrue (t : Shared) : Result → Shared → Prop := fun r s' => r = .ok (.ret (.bool true)) ∧ OldK t.heap s'.heap ∧ s'.os = t.os ∧ AllBare s'.gens
/-- from an abstract heap that tracks the script or nothing -/
theorem law_from {H : Hp} (Kt : K.In t.heap) (Nm : t.heap.Ns mainGlobals mg) (Nb : t.heap.Ns builtinsNs mb) (boot : ∀ x : Str, x ≠ "__name__" → mb x = bootBuiltins x) (lim : t.heap.NoLimit) (g0 : t.gens = #[])
    (ha : t.heap.get? a = some { cls := .type "list", data := .seq vs.toArray }) (r : RoomG k callerA) (G : ∀ base : Heap, K.In base → base.Ns mainGlobals mg → FnG P w K mg base CX k fa fd [x] sp) (bs : ∀ (s : Shared) (u : Value), BindsTo s fd ⟨[u], []⟩ [(x, u)])
    (q : sp [.ref a] H (fun v _ => v = .bl true) fun _ _ _ => False) (noX : ∀ H e s', CX [] H t (fun _ _ _ => False) e s' → False)
    (only : ∀ b, H b = none ∨ (b = a ∧ K.lookup a = none ∧ ∃ o ys, H b = some (.frz o (.lst ys)))) (hok : HOk P w H t.heap) :
    codeAny (model P w) callerA (.call (.ref fa) ⟨[.ref a], []⟩) (EndsTrue t) t := by
  have off : ∀ {b : Addr}, b ≠ a → H b = none := fun {b} n => (only b).elim id fun z => absurd z.1 n
  have keepB : ∀ {b : Addr} {o : Obj}, t.heap.get? b = some o → H b = none → (hidT t.heap H).get? b = some o := fun e n => hidT_get e n
  have dictOff : ∀ {b : Addr} {m : Str → Option Value}, t.heap.Ns b m → (hidT t.heap H).Ns b m := by
    rintro b m ⟨o, es, ep, e, d, rest⟩
    refine ⟨o, es, ep, keepB e (off fun z => ?_), d, rest⟩
    rw [z, ha] at e
    cases e
    exact Data.noConfusion (show Data.seq vs.toArray _ = Data.dict es ep from d)
  have KB : K.In (hidT t.heap H) := by
    intro b o e
    refine keepB (Kt b o e) ?_
    rcases only b with z | ⟨z, n, _⟩
    · exact z
    · rw [z, n] at e
      cases e
  obtain ⟨mc, c1, c2⟩ := lim
  have env : Env0 P w K mg (hidT t.heap H) callerA [] t H := ⟨rfl, ⟨KB, dictOff Nm, ⟨mb, dictOff Nb, boot⟩, ⟨mc, dictOff c1, c2⟩⟩, fun b o e => of_hidT e, Nat.le_of_eq (hidT_size _ _), trivial, (by intro b hb; cases hb), hok, .of_eq g0⟩
  refine codeAny_mono ((G _ KB (dictOff Nm)).go (us := [.ref a]) (vs := [.ref a]) r env (bs t (.ref a)) (.cons rfl .nil) q) fun res s' hres => ?_
  match res, hres with
  | .error e, h => exact (noX H e s' h).elim
  | .ok (.ret u), ⟨v, H', os, bare, un, hok', rv, qv⟩ =>
    subst qv
    obtain rfl : u = Value.bool true := rv
    refine ⟨rfl, OldK.of_keep fun b o e => ?_, os, bare⟩
    rcases only b with z | ⟨_, _, ob, ys, z⟩
    · exact un.keep b o e z (by intro y; cases y) (by intro y; cases y)
    · have e1 := (hok b _ z).1
      have e2 := (hok' b _ (un.frzs b ob _ z)).1
      rw [e] at e1
      cases e1
      exact e2
theorem law_g (Kt : K.In t.heap) (Nm : t.heap.Ns mainGlobals mg) (Nb : t.heap.Ns builtinsNs mb) (boot : ∀ x : Str, x ≠ "__name__" → mb x = bootBuiltins x) (lim : t.heap.NoLimit) (g0 : t.gens = #[])
    (ha : t.heap.get? a = some { cls := .type "list", data := .seq vs.toArray }) (hi : IntsAre vs ns) (hl : ns.length ≤ sizeLine) (r : RoomG k callerA) (G : ∀ base : Heap, K.In base → base.Ns mainGlobals mg → FnG P w K mg base CX k fa fd [x] sp)
    (bs : ∀ (s : Shared) (u : Value), BindsTo s fd ⟨[u], []⟩ [(x, u)]) (q : ∀ H : Hp, SqL K H a (ns.map V.int) → sp [.ref a] H (fun v _ => v = .bl true) fun _ _ _ => False) (noX : ∀ H e s', CX [] H t (fun _ _ _ => False) e s' → False) :
    codeAny (model P w) callerA (.call (.ref fa) ⟨[.ref a], []⟩) (EndsTrue t) t := by
  cases c : K.lookup a with
  | none =>
    have rv := vals_ints hi
    refine law_from (H := upd (fun _ => none) a (.frz { cls := .type "list", data := .seq vs.toArray } (.lst (ns.map V.int)))) Kt Nm Nb boot lim g0 ha r G bs (q _ (.inl (.inr ⟨_, upd_same⟩))) noX (fun b => ?_) fun b u z => ?_
    · by_cases hb : b = a
      · subst hb
        exact .inr ⟨rfl, c, _, _, upd_same⟩
      · exact .inl (upd_ne hb)
    · by_cases hb : b = a
      · subst hb
        rw [upd_same] at z
        cases z
        exact ⟨ha, by simpa using hl, vs, _, rv, ha⟩
      · rw [upd_ne hb] at z
        cases z
  | some o =>
    have e := Kt a o c
    rw [ha] at e
    cases e
    refine law_from (H := fun _ => none) Kt Nm Nb boot lim g0 ha r G bs (q _ (.inr ⟨_, vs.toArray, _, c, rfl, rfl, rfl, ?_, ?_⟩)) noX (fun b => .inl rfl) (fun b u z => by cases z)
    · rw [List.size_toArray, hi.length]
      exact hl
    · simpa using vals_ints hi
end
/-- the walk of the law, by its promise -/
theorem walk_g {l : PySem.W.OpenLaw} {n k : Nat} {q : Program} {loose : List Str} {XP : (Str → Option Value) → Heap → Prop} {YP : World → Heap → Prop} {d : DefRec} {CX : World → CXT} {x : Str} {sp : World → PySem.W.Frag → Sp}
    (hn : l.most = some n) (hn2 : n ≤ sizeLine) (hdf : d.params.defaults = []) (r : RoomG k callerA)
    (F : ∀ (w : World) (mg : Str → Option Value) (fa : Addr) (h : Heap), YP w h → h.Ns mainGlobals mg → mg d.name = some (.ref fa) → ∃ K : PySem.W.Frag, K.In h ∧ ∃ fd : FuncData, (∀ (s : Shared) (u : Value), BindsTo s fd ⟨[u], []⟩ [(x, u)]) ∧
      (∀ (H : Hp) (a : Addr) (ns : List Int), ns.length ≤ n → SqL K H a (ns.map V.int) → sp w K [.ref a] H (fun v _ => v = .bl true) fun _ _ _ => False) ∧ ∀ base : Heap, FnG l.prog w K mg base (CX w) k fa fd [x] (sp w K))
    (noX : ∀ (w : World) (H : Hp) (s : Shared) (e : Value) (s' : Shared), CX w [] H s (fun _ _ _ => False) e s' → False) : PySem.W.WalkO q loose XP YP l.row.toRowW d [] (fun f vs => PySem.call f vs) := by
  refine Att.attach_callB hn hdf fun w s₀ s₁ mg mb fa o pm cd doc a vs ns G Y ho hd hcd hmg hobj hints hlen hbits hg => ?_
  obtain ⟨K, KX, fd, hb, hsp, hF⟩ := F w mg fa _ Y G.T.g hmg
  exact law_g KX G.T.g G.T.b G.T.builtins G.T.nolimit hg hobj hints (Nat.le_trans hlen hn2) r (fun base _ _ => hF base) hb (fun H hS => hsp H a ns hlen hS) fun H e s' => noX w H s₁ e s'
end Pl

set_option maxHeartbeats 4000000
/-! P0: plain values, what bears them in the heap, plain states, what a body's meaning promises. -/
namespace Pl
open PySem PySem.Spec PyProof.Rows L2

/-- a plain value -/
inductive PV where
  | non | bl (b : Bool) | int (i : Int) | str (x : Str)
  | tup (xs : List PV) | lst (xs : List PV) | dct (ks vs : List PV) | dks (ks vs : List PV) | ins (c : Nat) (xs : List PV)
  /-- the script as it was handed in -/
  | scr (ns : List Int)

/-- what is told of the text's own classes: where each stands, its attributes in order -/
structure Fx where
  K : PySem.W.Frag
  w : World
  cls : Nat → Addr
  fld : Nat → List Str

def keyPV : Key → PV
  | .inl i => .int i
  | .inr x => .str x

/-- a dict whose keys are tuples of any depth, told by its entries -/
def dHO (w : World) (a : Addr) (xs : List (NestedKey × Addr × Value)) : HO :=
  .ext fun h => (a == sysModules) = false ∧ xs.length ≤ sizeLine ∧ (xs.map (·.1)).Nodup ∧ ∃ o es ep, h.get? a = some o ∧ o.ExactDict ∧ o.data = .dict es ep ∧ es.toList = xs.map fun x => (⟨x.1.hash w, .ref x.2.1, x.2.2⟩ : DictEntry)

/-- a key up to == -/
def nkey : PV → NestedKey
  | .bl b => .num (if b then 1 else 0)
  | .int i => .num i
  | .str x => .text x
  | .tup xs => .tup (nkeys xs)
  | _ => .none
where nkeys : List PV → List NestedKey
  | [] => []
  | x :: xs => nkey x :: nkeys xs

mutual
/-- a thing that may stand in a key -/
def keyP : PV → Bool
  | .non => true
  | .bl _ => true
  | .int _ => true
  | .str _ => true
  | .tup xs => keyPs xs
  | _ => false
def keyPs : List PV → Bool
  | [] => true
  | x :: xs => keyP x && keyPs xs
end
def keyOk (p : PV) : Bool := keyP p && decide ((nkey p).depth ≤ 8)
mutual
/-- the value v bears the plain value in what stands still -/
inductive Rep (F : Fx) (G : Hp) : PV → V → Prop
  | non : Rep F G .non .non
  | bl (b : Bool) : Rep F G (.bl b) (.bl b)
  | int (i : Int) : Rep F G (.int i) (.int i)
  | str (x : Str) : Rep F G (.str x) (.str x)
  | tup {ps : List PV} {a : Addr} {vs : List V} : SqT F.K G a vs → Reps F G ps vs → Rep F G (.tup ps) (.ref a)
  | lst {ps : List PV} {a : Addr} {vs : List V} : G a = some (.lst vs) → Reps F G ps vs → Rep F G (.lst ps) (.ref a)
  | scr {ns : List Int} {a : Addr} : SqL F.K G a (ns.map V.int) → Rep F G (.scr ns) (.ref a)
  | dK {ks vs : List PV} {a : Addr} {kvs : List (Key × V)} : G a = some (.dK kvs) → ks = kvs.map (fun q => keyPV q.1) → Reps F G vs (kvs.map (·.2)) → Rep F G (.dks ks vs) (.ref a)
  | dT {ks vs : List PV} {a : Addr} {xs : List (NestedKey × Addr × Value)} {us : List V} {o : Obj} : G a = some (.frz o (dHO F.w a xs)) → Reps F G ks (xs.map fun x => V.ref x.2.1) → ks.map nkey = xs.map (·.1) → ks.all keyOk = true →
      Vals us (xs.map (·.2.2)) → Reps F G vs us → Rep F G (.dct ks vs) (.ref a)
  | ins {c : Nat} {ps : List PV} {a dx : Addr} {fs : List (Str × V)} : G a = some (.ins (F.cls c) dx fs) → fs.map (·.1) = F.fld c → Reps F G ps (fs.map (·.2)) → Rep F G (.ins c ps) (.ref a)
inductive Reps (F : Fx) (G : Hp) : List PV → List V → Prop
  | nil : Reps F G [] []
  | cons {p : PV} {v : V} {ps : List PV} {vs : List V} : Rep F G p v → Reps F G ps vs → Reps F G (p :: ps) (v :: vs)
end

theorem SqT.same {K : PySem.W.Frag} {H H' : Hp} {a : Addr} {xs : List V} (e : Same H H') (h : SqT K H a xs) : SqT K H' a xs := by
  rcases h with (h | ⟨o, h⟩) | h
  · exact .inl (.inl (e _ _ h))
  · exact .inl (.inr ⟨o, e _ _ h⟩)
  · exact .inr h

section
variable {F : Fx} {G G' : Hp}
mutual
theorem Rep.same (e : Same G G') : ∀ {p : PV} {v : V}, Rep F G p v → Rep F G' p v
  | _, _, .non => .non
  | _, _, .bl b => .bl b
  | _, _, .int i => .int i
  | _, _, .str x => .str x
  | _, _, .tup h r => .tup (SqT.same e h) (Reps.same e r)
  | _, _, .lst h r => .lst (e _ _ h) (Reps.same e r)
  | _, _, .scr h => .scr (Same.seq e h)
  | _, _, .dK h k r => .dK (e _ _ h) k (Reps.same e r)
  | _, _, .dT h k n b u r => .dT (e _ _ h) (Reps.same e k) n b u (Reps.same e r)
  | _, _, .ins h k r => .ins (e _ _ h) k (Reps.same e r)
theorem Reps.same (e : Same G G') : ∀ {ps : List PV} {vs : List V}, Reps F G ps vs → Reps F G' ps vs
  | _, _, .nil => .nil
  | _, _, .cons h r => .cons (Rep.same e h) (Reps.same e r)
end
theorem Reps.length : ∀ {ps : List PV} {vs : List V}, Reps F G ps vs → ps.length = vs.length
  | _, _, .nil => rfl
  | _, _, .cons _ r => congrArg (· + 1) (Reps.length r)
theorem Reps.get : ∀ {ps : List PV} {vs : List V} {i : Nat} {p : PV}, Reps F G ps vs → ps[i]? = some p → ∃ v, vs[i]? = some v ∧ Rep F G p v
  | _, _, 0, _, .cons h _, e => by
    cases e
    exact ⟨_, rfl, h⟩
  | _, _, i + 1, p, .cons _ r, e => by
    obtain ⟨v, h1, h2⟩ := Reps.get (i := i) (p := p) r (by simpa using e)
    exact ⟨v, by simpa using h1, h2⟩
theorem Reps.append : ∀ {ps qs : List PV} {vs us : List V}, Reps F G ps vs → Reps F G qs us → Reps F G (ps ++ qs) (vs ++ us)
  | _, _, _, _, .nil, s => s
  | _, _, _, _, .cons h r, s => .cons h (Reps.append r s)
theorem Reps.take : ∀ {ps : List PV} {vs : List V} (n : Nat), Reps F G ps vs → Reps F G (ps.take n) (vs.take n)
  | _, _, 0, _ => .nil
  | _, _, _ + 1, .nil => .nil
  | _, _, n + 1, .cons h r => .cons h (Reps.take n r)
theorem Reps.drop : ∀ {ps : List PV} {vs : List V} (n : Nat), Reps F G ps vs → Reps F G (ps.drop n) (vs.drop n)
  | _, _, 0, r => r
  | _, _, _ + 1, .nil => .nil
  | _, _, n + 1, .cons _ r => Reps.drop n r
theorem Reps.set {p : PV} {v : V} (h : Rep F G p v) : ∀ {ps : List PV} {vs : List V} (i : Nat), Reps F G ps vs → Reps F G (ps.set i p) (vs.set i v)
  | _, _, _, .nil => .nil
  | _, _, 0, .cons _ r => .cons h r
  | _, _, i + 1, .cons g r => .cons g (Reps.set h i r)
end

/-- what a slot holds: a value; an object of its own that nothing else names; the object that was handed in to be changed -/
inductive SV where
  | val (p : PV)
  | own (c : PV)
  | inp (c : PV)

/-- an object that is owned: what it holds stands still -/
inductive Own (F : Fx) (G H : Hp) (p : Addr) : PV → Prop
  | lst {ps : List PV} {vs : List V} : H p = some (.lst vs) → Reps F G ps vs → Own F G H p (.lst ps)
  | dK {ks vs : List PV} {kvs : List (Key × V)} : H p = some (.dK kvs) → ks = kvs.map (fun q => keyPV q.1) → Reps F G vs (kvs.map (·.2)) → Own F G H p (.dks ks vs)
  | dT {ks vs : List PV} {xs : List (NestedKey × Addr × Value)} {us : List V} : H p = some (dHO F.w p xs) → Reps F G ks (xs.map fun x => V.ref x.2.1) → ks.map nkey = xs.map (·.1) → ks.all keyOk = true →
      Vals us (xs.map (·.2.2)) → Reps F G vs us → Own F G H p (.dct ks vs)
  | ins {c : Nat} {ps : List PV} {dx : Addr} {fs : List (Str × V)} : H p = some (.ins (F.cls c) dx fs) → fs.map (·.1) = F.fld c → Reps F G ps (fs.map (·.2)) → Own F G H p (.ins c ps)

theorem Own.same {F : Fx} {G G' H H' : Hp} {p : Addr} {c : PV} (e : Same G G') (k : ∀ o, H p = some o → H' p = some o) (h : Own F G H p c) : Own F G' H' p c := by
  cases h with
  | lst h r => exact .lst (k _ h) (r.same e)
  | dK h q r => exact .dK (k _ h) q (r.same e)
  | dT h q n b u r => exact .dT (k _ h) (q.same e) n b u (r.same e)
  | ins h q r => exact .ins (k _ h) q (r.same e)
theorem Own.there {F : Fx} {G H : Hp} {p : Addr} {c : PV} (h : Own F G H p c) : ∃ o, H p = some o := by
  cases h with
  | lst h r => exact ⟨_, h⟩
  | dK h q r => exact ⟨_, h⟩
  | dT h q n b u r => exact ⟨_, h⟩
  | ins h q r => exact ⟨_, h⟩
/-- how an object lies that stands still: a dict with tuple keys is known from now on -/
def frzHO (c : PV) (o : HO) (ob : Obj) : HO := match c with
  | .dct _ _ => .frz ob o
  | _ => o
/-- it is handed on: from now on it stands still -/
theorem Own.frozen {F : Fx} {G H : Hp} {p : Addr} {c : PV} {o : HO} (h : Own F G H p c) (hp : H p = some o) (ob : Obj) (e : Same G (upd G p (frzHO c o ob))) : Rep F (upd G p (frzHO c o ob)) c (.ref p) := by
  cases h with
  | lst h r => rw [hp] at h; cases h; exact .lst upd_same (r.same e)
  | dK h q r => rw [hp] at h; cases h; exact .dK upd_same q (r.same e)
  | dT h q n b u r =>
    rw [hp] at h
    have h' := Option.some.inj h
    refine .dT (o := ob) ?_ (q.same e) n b u (r.same e)
    rw [upd_same, h']
    rfl
  | ins h q r => rw [hp] at h; cases h; exact .ins upd_same q (r.same e)

abbrev Rho := List (Option SV)

/-- the slots and the heap bear the plain state; Fr: what belongs to others, and stays; io: what was handed in to be changed -/
structure StOk (F : Fx) (io : Option Addr) (G Fr H : Hp) (σ : L2.St) (ρ : Rho) : Prop where
  sub : Same G H
  fsub : Same Fr H
  dis : ∀ a o, G a = some o → Fr a = none
  len : ρ.length = σ.length
  val : ∀ (i : Nat) (p : PV), ρ[i]? = some (some (SV.val p)) → ∃ v, σ[i]? = some (some v) ∧ Rep F G p v
  own : ∀ (i : Nat) (c : PV), ρ[i]? = some (some (SV.own c)) → ∃ a, σ[i]? = some (some (V.ref a)) ∧ G a = none ∧ Fr a = none ∧ Own F G H a c ∧ io ≠ some a
  sep : ∀ (i j : Nat) (c d : PV) (a : Addr), ρ[i]? = some (some (SV.own c)) → ρ[j]? = some (some (SV.own d)) → σ[i]? = some (some (V.ref a)) → σ[j]? = some (some (V.ref a)) → i = j
  iot : ∀ a, io = some a → G a = none ∧ Fr a = none ∧ ∃ o, H a = some o
  inp : ∀ (i : Nat) (c : PV), ρ[i]? = some (some (SV.inp c)) → ∃ a, io = some a ∧ σ[i]? = some (some (V.ref a)) ∧ Own F G H a c
  one : ∀ (i j : Nat) (c d : PV), ρ[i]? = some (some (SV.inp c)) → ρ[j]? = some (some (SV.inp d)) → i = j

/-- the heap grows: all stays, more may stand still -/
structure Grow (G H G' H' : Hp) : Prop where
  all : Same H H'
  gle : Same G G'
  sub : Same G' H'
  new : ∀ a o, G' a = some o → G a = none → H a = none
theorem Grow.refl {G H : Hp} (s : Same G H) : Grow G H G H := ⟨Same.refl _, Same.refl _, s, fun a o h e => by rw [h] at e; cases e⟩
theorem Grow.trans {G H G1 H1 G2 H2 : Hp} (a : Grow G H G1 H1) (b : Grow G1 H1 G2 H2) : Grow G H G2 H2 := by
  refine ⟨a.all.trans b.all, a.gle.trans b.gle, b.sub, fun c o h e => ?_⟩
  cases q : G1 c with
  | some u => exact a.new c u q e
  | none => exact a.all.free (b.new c o h q)
theorem Grow.stays0 {G H G' H' : Hp} (g : Grow G H G' H') {a : Addr} (h : G a = none) (t : ∃ o, H a = some o) : G' a = none := by
  cases q : G' a with
  | none => rfl
  | some u =>
    obtain ⟨o, ho⟩ := t
    rw [g.new a u q h] at ho
    cases ho
/-- a new object that stands still -/
theorem same_upd {H : Hp} {p : Addr} {o : HO} (n : H p = none) : Same H (upd H p o) := fun b u h => by
  rw [upd_ne (ne_of_none h n)]
  exact h
theorem Grow.new1 {G H : Hp} {p : Addr} {o : HO} (s : Same G H) (n : H p = none) : Grow G H (upd G p o) (upd H p o) := by
  refine ⟨same_upd n, same_upd (s.free n), fun b u h => ?_, fun b u h e => ?_⟩
  · by_cases q : b = p
    · subst q
      rw [upd_same] at h ⊢
      exact h
    · rw [upd_ne q] at h ⊢
      exact s _ _ h
  · by_cases q : b = p
    · subst q
      exact n
    · rw [upd_ne q, e] at h
      cases h
/-- a new object that does not stand still -/
theorem Grow.new0 {G H : Hp} {p : Addr} {o : HO} (s : Same G H) (n : H p = none) : Grow G H G (upd H p o) :=
  ⟨same_upd n, Same.refl _, s.trans (same_upd n), fun a o h e => by rw [h] at e; cases e⟩
/-- slots -/
theorem slot_set {α : Type} {l : List (Option α)} {i j : Nat} {x y : α} (h : (l.set i (some x))[j]? = some (some y)) : (i = j ∧ x = y) ∨ (i ≠ j ∧ l[j]? = some (some y)) := by
  by_cases e : i = j
  · subst e
    by_cases z : i < l.length
    · rw [List.getElem?_set_self z] at h
      exact .inl ⟨rfl, Option.some.inj (Option.some.inj h)⟩
    · rw [List.getElem?_eq_none (by rw [List.length_set]; omega)] at h
      cases h
  · rw [List.getElem?_set_ne e] at h
    exact .inr ⟨e, h⟩
theorem lt_of_slot {α : Type} {l : List (Option α)} {i : Nat} {y : α} (h : l[i]? = some (some y)) : i < l.length := by
  rcases Nat.lt_or_ge i l.length with z | z
  · exact z
  · rw [List.getElem?_eq_none z] at h
    cases h
section
variable {F : Fx} {io : Option Addr} {G Fr H G' H' : Hp} {σ : L2.St} {ρ : Rho}
theorem StOk.grow (S : StOk F io G Fr H σ ρ) (g : Grow G H G' H') : StOk F io G' Fr H' σ ρ := by
  refine ⟨g.sub, S.fsub.trans g.all, fun a o h => ?_, S.len, fun i p e => ?_, fun i c e => ?_, S.sep, fun a e => ?_, fun i c e => ?_, S.one⟩
  · cases q : G a with
    | some u => exact S.dis a u q
    | none => exact S.fsub.free (g.new a o h q)
  · obtain ⟨v, h1, h2⟩ := S.val i p e
    exact ⟨v, h1, h2.same g.gle⟩
  · obtain ⟨a, h1, h2, h3, h4, h5⟩ := S.own i c e
    exact ⟨a, h1, g.stays0 h2 h4.there, h3, h4.same g.gle fun o ho => g.all _ _ ho, h5⟩
  · obtain ⟨h1, h2, o, h3⟩ := S.iot a e
    exact ⟨g.stays0 h1 ⟨o, h3⟩, h2, o, g.all _ _ h3⟩
  · obtain ⟨a, h1, h2, h3⟩ := S.inp i c e
    exact ⟨a, h1, h2, h3.same g.gle fun o ho => g.all _ _ ho⟩
theorem slot_st {i j : Nat} {v : V} (h : i ≠ j) : (σ.set i (some v))[j]? = σ[j]? := List.getElem?_set_ne h
theorem StOk.set_val {i : Nat} {p : PV} {v : V} (S : StOk F io G Fr H σ ρ) (r : Rep F G p v) : StOk F io G Fr H (σ.set i (some v)) (ρ.set i (some (.val p))) := by
  refine ⟨S.sub, S.fsub, S.dis, by rw [List.length_set, List.length_set]; exact S.len, fun j q e => ?_, fun j c e => ?_, fun j k c d a e1 e2 e3 e4 => ?_, S.iot, fun j c e => ?_, fun j k c d e1 e2 => ?_⟩
  · rcases slot_set e with ⟨rfl, z⟩ | ⟨n, z⟩
    · injection z with z
      subst z
      have l : i < ρ.length := by simpa using lt_of_slot e
      exact ⟨v, List.getElem?_set_self (S.len ▸ l), r⟩
    · rw [slot_st n]
      exact S.val j q z
  · rcases slot_set e with ⟨rfl, z⟩ | ⟨n, z⟩
    · cases z
    · rw [slot_st n]
      exact S.own j c z
  · rcases slot_set e1 with ⟨rfl, z⟩ | ⟨n, z⟩
    · cases z
    · rcases slot_set e2 with ⟨rfl, z2⟩ | ⟨n2, z2⟩
      · cases z2
      · rw [slot_st n] at e3
        rw [slot_st n2] at e4
        exact S.sep j k c d a z z2 e3 e4
  · rcases slot_set e with ⟨rfl, z⟩ | ⟨n, z⟩
    · cases z
    · rw [slot_st n]
      exact S.inp j c z
  · rcases slot_set e1 with ⟨rfl, z⟩ | ⟨n, z⟩
    · cases z
    · rcases slot_set e2 with ⟨rfl, z2⟩ | ⟨n2, z2⟩
      · cases z2
      · exact S.one j k c d z z2
/-- a slot takes an object of its own, that stands in the heap, and that nothing names -/
theorem StOk.take_own {i : Nat} {c : PV} {a : Addr} (S : StOk F io G Fr H σ ρ) (nG : G a = none) (nF : Fr a = none) (nI : io ≠ some a) (old : ∀ (j : Nat) (d : PV), ρ[j]? = some (some (SV.own d)) → σ[j]? ≠ some (some (V.ref a)))
    (r : Own F G H a c) : StOk F io G Fr H (σ.set i (some (.ref a))) (ρ.set i (some (.own c))) := by
  refine ⟨S.sub, S.fsub, S.dis, by rw [List.length_set, List.length_set]; exact S.len, fun j q e => ?_, fun j d e => ?_, fun j l d d' b e1 e2 e3 e4 => ?_, S.iot, fun j d e => ?_, fun j k c d e1 e2 => ?_⟩
  · rcases slot_set e with ⟨rfl, z⟩ | ⟨n, z⟩
    · cases z
    · rw [slot_st n]
      exact S.val j q z
  · rcases slot_set e with ⟨rfl, z⟩ | ⟨n, z⟩
    · injection z with z
      subst z
      have l : i < ρ.length := by simpa using lt_of_slot e
      exact ⟨a, List.getElem?_set_self (S.len ▸ l), nG, nF, r, nI⟩
    · rw [slot_st n]
      exact S.own j d z
  · rcases slot_set e1 with ⟨rfl, z⟩ | ⟨n, z⟩
    · rcases slot_set e2 with ⟨rfl, z2⟩ | ⟨n2, z2⟩
      · rfl
      · have q : a = b := by
          rcases slot_set e3 with ⟨_, q⟩ | ⟨n3, _⟩
          · injection q
          · exact absurd rfl n3
        rw [slot_st n2] at e4
        rw [← q] at e4
        exact absurd e4 (old l d' z2)
    · rcases slot_set e2 with ⟨rfl, z2⟩ | ⟨n2, z2⟩
      · have q : a = b := by
          rcases slot_set e4 with ⟨_, q⟩ | ⟨n3, _⟩
          · injection q
          · exact absurd rfl n3
        rw [slot_st n] at e3
        rw [← q] at e3
        exact absurd e3 (old j d z)
      · rw [slot_st n] at e3
        rw [slot_st n2] at e4
        exact S.sep j l d d' b z z2 e3 e4
  · rcases slot_set e with ⟨rfl, z⟩ | ⟨n, z⟩
    · cases z
    · rw [slot_st n]
      exact S.inp j d z
  · rcases slot_set e1 with ⟨rfl, z⟩ | ⟨n, z⟩
    · cases z
    · rcases slot_set e2 with ⟨rfl, z2⟩ | ⟨n2, z2⟩
      · cases z2
      · exact S.one j k c d z z2
/-- a slot takes a new object of its own -/
theorem StOk.new_own {i : Nat} {c : PV} {a : Addr} {o : HO} (S : StOk F io G Fr H σ ρ) (n : H a = none) (r : Own F G (upd H a o) a c) :
    StOk F io G Fr (upd H a o) (σ.set i (some (.ref a))) (ρ.set i (some (.own c))) := by
  refine (S.grow (Grow.new0 S.sub n)).take_own (S.sub.free n) (S.fsub.free n) (fun e => ?_) (fun j d e h => ?_) r
  · obtain ⟨_, _, o, h⟩ := S.iot a e
    rw [n] at h
    cases h
  · obtain ⟨b, h1, _, _, h4, _⟩ := S.own j d e
    rw [h] at h1
    cases h1
    obtain ⟨u, hu⟩ := h4.there
    rw [n] at hu
    cases hu
/-- a slot is forgotten -/
theorem slot_none {α : Type} {l : List (Option α)} {i j : Nat} {y : α} (h : (l.set i none)[j]? = some (some y)) : i ≠ j ∧ l[j]? = some (some y) := by
  by_cases e : i = j
  · subst e
    by_cases z : i < l.length
    · rw [List.getElem?_set_self z] at h
      cases h
    · rw [List.getElem?_eq_none (by rw [List.length_set]; omega)] at h
      cases h
  · rw [List.getElem?_set_ne e] at h
    exact ⟨e, h⟩
theorem StOk.wipe1 {i : Nat} {w : Option V} (S : StOk F io G Fr H σ ρ) : StOk F io G Fr H (σ.set i w) (ρ.set i none) := by
  refine ⟨S.sub, S.fsub, S.dis, by rw [List.length_set, List.length_set]; exact S.len, fun j q e => ?_, fun j d e => ?_, fun j l d d' b e1 e2 e3 e4 => ?_, S.iot, fun j d e => ?_, fun j k c d e1 e2 => ?_⟩
  · obtain ⟨n, z⟩ := slot_none e
    rw [List.getElem?_set_ne n]
    exact S.val j q z
  · obtain ⟨n, z⟩ := slot_none e
    rw [List.getElem?_set_ne n]
    exact S.own j d z
  · obtain ⟨n, z⟩ := slot_none e1
    obtain ⟨n2, z2⟩ := slot_none e2
    rw [List.getElem?_set_ne n] at e3
    rw [List.getElem?_set_ne n2] at e4
    exact S.sep j l d d' b z z2 e3 e4
  · obtain ⟨n, z⟩ := slot_none e
    rw [List.getElem?_set_ne n]
    exact S.inp j d z
  · exact S.one j k c d (slot_none e1).2 (slot_none e2).2
end
end Pl

set_option maxHeartbeats 4000000
/-! P1: meanings of expressions, tests, argument lists; the rules that give them. -/
namespace Pl
open PySem PySem.Spec PyProof.Rows L2

inductive Res (α : Type) where
  | ok (a : α) (ρ : Rho)
  | exc (c : Nat) (as : List PV) (ρ : Rho)
  | stuck
abbrev DD (α : Type) := Rho → Res α
abbrev DE := DD PV
def Res.bind {α β : Type} (r : Res α) (k : α → Rho → Res β) : Res β := match r with
  | .ok a ρ => k a ρ
  | .exc c as ρ => .exc c as ρ
  | .stuck => .stuck
def ofO {α : Type} (o : Option α) (ρ : Rho) : Res α := match o with
  | some a => .ok a ρ
  | none => .stuck

/-- how an error lies: its own dict holds its attributes -/
def ExcAt (F : Fx) (G H : Hp) (c : Nat) (as : List PV) (d : Option Addr) : Prop := match as with
  | [] => d = none
  | a :: r => ∃ p fs, d = some p ∧ H p = some (.xd fs) ∧ fs.map (·.1) = F.fld c ∧ Reps F G (a :: r) (fs.map (·.2))

section
variable {α β γ δ : Type}
/-- what must hold so that an expression with this meaning ends as wanted -/
def Post (R : Hp → α → β → Prop) (F : Fx) (io : Option Addr) (W : WX) (Fr G : Hp) (σ : L2.St) (Q : β → Hp → Prop) : Res α → Prop
  | .ok r ρ => ∀ v G' H', Same G G' → StOk F io G' Fr H' σ ρ → R G' r v → Q v H'
  | .exc c as ρ => ∀ d G' H', Same G G' → StOk F io G' Fr H' σ ρ → ExcAt F G' H' c as d → W (.ref (F.cls c)) d σ H'
  | .stuck => False
def tD (R : Hp → α → β → Prop) (F : Fx) (io : Option Addr) (W : WX) (d : DD α) : L2.St → Hp → (β → Hp → Prop) → Prop := fun σ H Q =>
  ∃ G Fr ρ, StOk F io G Fr H σ ρ ∧ Post R F io W Fr G σ Q (d ρ)
abbrev RB : Hp → Bool → Bool → Prop := fun _ a b => a = b
def tE (F : Fx) (io : Option Addr) (W : WX) (d : DE) : TE := tD (Rep F) F io W d
def tT (F : Fx) (io : Option Addr) (W : WX) (d : DD Bool) : TT := tD RB F io W d
def tA (F : Fx) (io : Option Addr) (W : WX) (d : DD (List PV)) : TA := tD (Reps F) F io W d
variable {R : Hp → α → β → Prop} {R' : Hp → γ → δ → Prop} {F : Fx} {io : Option Addr} {W : WX} {Fr G G' H : Hp} {σ : L2.St} {ρ : Rho}
theorem Post.gle {Q : β → Hp → Prop} (e : Same G G') : ∀ {r : Res α}, Post R F io W Fr G σ Q r → Post R F io W Fr G' σ Q r
  | .ok r ρ, h => fun v G1 H1 e1 => h v G1 H1 (e.trans e1)
  | .exc c as ρ, h => fun d G1 H1 e1 => h d G1 H1 (e.trans e1)
  | .stuck, h => h
/-- one part is done, the rest is left -/
theorem tD.step {d : DD α} {k : α → Rho → Res γ} {Q : δ → Hp → Prop} {Q1 : β → Hp → Prop} (S : StOk F io G Fr H σ ρ) (h : Post R' F io W Fr G σ Q ((d ρ).bind k))
    (f : ∀ v H1 G1 ρ1 x, Same G G1 → StOk F io G1 Fr H1 σ ρ1 → R G1 x v → Post R' F io W Fr G1 σ Q (k x ρ1) → Q1 v H1) : tD R F io W d σ H Q1 := by
  refine ⟨G, Fr, ρ, S, ?_⟩
  cases e : d ρ with
  | ok x ρ1 =>
    intro v G1 H1 e1 S1 r1
    rw [e] at h
    exact f v H1 G1 ρ1 x e1 S1 r1 (Post.gle e1 h)
  | exc c as ρ1 =>
    rw [e] at h
    exact h
  | stuck =>
    rw [e] at h
    exact h
theorem Post.done {a : α} {v : β} {Q : β → Hp → Prop} (h : Post R F io W Fr G σ Q (.ok a ρ)) (S : StOk F io G Fr H σ ρ) (r : R G a v) : Q v H := h v G H (Same.refl _) S r
end

theorem _root_.L2.PE.imp {X : Cx} {e : Expr} {t t' : TE} (h : PE X e t) (i : ∀ σ H Q, t' σ H Q → t σ H Q) : PE X e t' := ⟨fun pins s σ H Q I w => h.run pins s σ H Q I (i σ H Q w)⟩
theorem _root_.L2.PT.imp {X : Cx} {e : Expr} {t t' : TT} (h : PT X e t) (i : ∀ σ H Q, t' σ H Q → t σ H Q) : PT X e t' := ⟨fun pins s σ H Q I w => h.run pins s σ H Q I (i σ H Q w)⟩
theorem _root_.L2.PW.imp {X : Cx} {e : Expr} {t t' : TT} (h : PW X e t) (i : ∀ σ H Q, t' σ H Q → t σ H Q) : PW X e t' := ⟨fun wh pins s σ H Q I w => h.run wh pins s σ H Q I (i σ H Q w)⟩
theorem _root_.L2.PA.imp {X : Cx} {es : List Expr} {t t' : TA} (h : PA X es t) (i : ∀ σ H Q, t' σ H Q → t σ H Q) : PA X es t' := ⟨fun pos pins s σ H Q I w => h.run pos pins s σ H Q I (i σ H Q w)⟩

section
variable {X : Cx} {F : Fx} {io : Option Addr} {W : WX} {a b c e : Expr} {es : List Expr} {pos : Pos}

/-! ### names, constants -/
def dVar (i : Nat) : DE := fun ρ => match ρ[i]? with
  | some (some (.val p)) => .ok p ρ
  | _ => .stuck
def dC (p : PV) : DE := fun ρ => .ok p ρ
theorem pp_var {i : Nat} {x : Str} (h : PE X (.Name x pos) (tVar i)) : PE X (.Name x pos) (tE F io W (dVar i)) := by
  refine h.imp fun σ H Q ⟨G, Fr, ρ, S, p⟩ => ?_
  unfold dVar at p
  cases e : ρ[i]? with
  | none => rw [e] at p; exact p.elim
  | some o =>
    cases o with
    | none => rw [e] at p; exact p.elim
    | some sv =>
      cases sv with
      | val q =>
        rw [e] at p
        obtain ⟨v, h1, h2⟩ := S.val i q e
        exact ⟨v, h1, p.done S h2⟩
      | own q => rw [e] at p; exact p.elim
      | inp q => rw [e] at p; exact p.elim
theorem pp_c {v : V} {p : PV} (h : PE X e (tC v)) (r : ∀ G, Rep F G p v) : PE X e (tE F io W (dC p)) :=
  h.imp fun σ H Q ⟨G, Fr, ρ, S, q⟩ => Post.done (v := v) q S (r G)
theorem pp_int {i : Int} {j} : PE X (.Constant (.int i) j pos) (tE F io W (dC (.int i))) := pp_c pe_int fun _ => .int i
theorem pp_bl {k : Bool} {j} : PE X (.Constant (.bool k) j pos) (tE F io W (dC (.bl k))) := pp_c pe_bl fun _ => .bl k
theorem pp_non {j} : PE X (.Constant .none j pos) (tE F io W (dC .non)) := pp_c pe_non fun _ => .non
theorem pp_str {x : Str} {j} : PE X (.Constant (.str x) j pos) (tE F io W (dC (.str x))) := pp_c pe_str fun _ => .str x

/-! ### argument lists -/
def dNil : DD (List PV) := fun ρ => .ok [] ρ
def dCons (d : DE) (r : DD (List PV)) : DD (List PV) := fun ρ => (d ρ).bind fun x ρ => (r ρ).bind fun xs ρ => .ok (x :: xs) ρ
theorem pq_nil : PA X [] (tA F io W dNil) := pa_nil.imp fun σ H Q ⟨G, Fr, ρ, S, q⟩ => q.done S .nil
theorem pq_cons {d : DE} {r : DD (List PV)} (ha : PE X e (tE F io W d)) (hr : PA X es (tA F io W r)) (hs : starEach (e :: es) X.env = (false, eval e X.env) :: starEach es X.env := by rfl) : PA X (e :: es) (tA F io W (dCons d r)) := by
  refine (pa_cons ha hr hs).imp fun σ H Q ⟨G, Fr, ρ, S, q⟩ => ?_
  exact tD.step S q fun v H1 G1 ρ1 x e1 S1 r1 q1 => tD.step S1 q1 fun vs H2 G2 ρ2 xs e2 S2 r2 q2 => q2.done S2 (.cons (r1.same e2) r2)
/-! ### displays -/
def dTup (d : DD (List PV)) : DE := fun ρ => (d ρ).bind fun xs ρ => if xs.length ≤ 1000 then .ok (.tup xs) ρ else .stuck
def dLst (d : DD (List PV)) : DE := fun ρ => (d ρ).bind fun xs ρ => if xs.length ≤ 1000 then .ok (.lst xs) ρ else .stuck
theorem line1000 {n : Nat} (h : n ≤ 1000) : n ≤ sizeLine := Nat.le_trans h (by decide)
theorem pp_tup {d : DD (List PV)} {j} (h : PA X es (tA F io W d)) : PE X (.Tuple es j pos) (tE F io W (dTup d)) := by
  refine (pe_tup h).imp fun σ H Q ⟨G, Fr, ρ, S, q⟩ => ?_
  refine tD.step S q fun vs H1 G1 ρ1 xs e1 S1 r1 q1 => ?_
  by_cases l : xs.length ≤ 1000
  · rw [if_pos l] at q1
    refine ⟨by rw [← r1.length]; exact line1000 l, fun p n => ?_⟩
    exact q1 _ _ _ (same_upd (S1.sub.free n)) (S1.grow (Grow.new1 S1.sub n)) (.tup (.inl (.inl upd_same)) (r1.same (same_upd (S1.sub.free n))))
  · rw [if_neg l] at q1
    exact q1.elim
theorem pp_lst {d : DD (List PV)} (h : PA X es (tA F io W d)) : PE X (.List es pos) (tE F io W (dLst d)) := by
  refine (pe_lst h).imp fun σ H Q ⟨G, Fr, ρ, S, q⟩ => ?_
  refine tD.step S q fun vs H1 G1 ρ1 xs e1 S1 r1 q1 => ?_
  by_cases l : xs.length ≤ 1000
  · rw [if_pos l] at q1
    refine ⟨by rw [← r1.length]; exact line1000 l, fun p n => ?_⟩
    exact q1 _ _ _ (same_upd (S1.sub.free n)) (S1.grow (Grow.new1 S1.sub n)) (.lst upd_same (r1.same (same_upd (S1.sub.free n))))
  · rw [if_neg l] at q1
    exact q1.elim

/-! ### operators -/
def dBin (f : PV → PV → Option PV) (da db : DE) : DE := fun ρ => (da ρ).bind fun x ρ => (db ρ).bind fun y ρ => ofO (f x y) ρ
def dUn (f : PV → Option PV) (da : DE) : DE := fun ρ => (da ρ).bind fun x ρ => ofO (f x) ρ
/-- a rule by values is told by a plain function -/
def BinOk (F : Fx) (r : R2) (f : PV → PV → Option PV) : Prop := ∀ (G H : Hp) (v u : V) (x y z : PV) (Q : VK), Same G H → Rep F G x v → Rep F G y u → f x y = some z →
  (∀ v' G' H', Grow G H G' H' → Rep F G' z v' → Q v' H') → r v u H Q
def UnOk (F : Fx) (r : V → Hp → VK → Prop) (f : PV → Option PV) : Prop := ∀ (G H : Hp) (v : V) (x z : PV) (Q : VK), Same G H → Rep F G x v → f x = some z →
  (∀ v' G' H', Grow G H G' H' → Rep F G' z v' → Q v' H') → r v H Q
theorem Post.ofO {α β γ : Type} {R : Hp → α → β → Prop} {Fr G H : Hp} {σ : L2.St} {ρ : Rho} {o : Option α} {Q : β → Hp → Prop} (h : Post R F io W Fr G σ Q (ofO o ρ)) (S : StOk F io G Fr H σ ρ) :
    ∃ z, o = some z ∧ ∀ v' G' H', Grow G H G' H' → R G' z v' → Q v' H' := by
  cases o with
  | none => exact h.elim
  | some z => exact ⟨z, rfl, fun v' G' H' g r => h v' G' H' g.gle (S.grow g) r⟩
theorem bin_step {r : R2} {f : PV → PV → Option PV} {da db : DE} (hb : BinOk F r f) {σ : L2.St} {H : Hp} {Q : VK} (h : tE F io W (dBin f da db) σ H Q) : tOp r (tE F io W da) (tE F io W db) σ H Q := by
  obtain ⟨G, Fr, ρ, S, q⟩ := h
  refine tD.step S q fun v H1 G1 ρ1 x e1 S1 r1 q1 => tD.step S1 q1 fun u H2 G2 ρ2 y e2 S2 r2 q2 => ?_
  obtain ⟨z, hz, k⟩ := Post.ofO (γ := Unit) q2 S2
  exact hb G2 H2 v u x y z Q S2.sub (r1.same e2) r2 hz k
theorem pp_op {op : Operator} {r : R2} {f : PV → PV → Option PV} {da db : DE} (ho : OpR X (binaryOp op) r) (hb : BinOk F r f) (h1 : PE X a (tE F io W da)) (h2 : PE X b (tE F io W db)) : PE X (.BinOp a op b pos) (tE F io W (dBin f da db)) :=
  (pe_op ho h1 h2).imp fun _ _ _ h => bin_step hb h
theorem pp_cmp {op : CmpOp} {r : R2} {f : PV → PV → Option PV} {da db : DE} (ho : OpR X (compareOp op) r) (hb : BinOk F r f) (h1 : PE X a (tE F io W da)) (h2 : PE X b (tE F io W db)) (hm : behindInMarks op b = false) : PE X (.Compare a [op] [b] pos) (tE F io W (dBin f da db)) :=
  (pe_cmpR ho h1 h2 hm).imp fun _ _ _ h => bin_step hb h
theorem pp_un {op : UnaryOp} {r : V → Hp → VK → Prop} {f : PV → Option PV} {da : DE} (ho : UnR X (unaryOp op) r) (hb : UnOk F r f) (h1 : PE X a (tE F io W da)) : PE X (.UnaryOp op a pos) (tE F io W (dUn f da)) := by
  refine (pe_un ho h1).imp fun σ H Q ⟨G, Fr, ρ, S, q⟩ => ?_
  refine tD.step S q fun v H1 G1 ρ1 x e1 S1 r1 q1 => ?_
  obtain ⟨z, hz, k⟩ := Post.ofO (γ := Unit) q1 S1
  exact hb G1 H1 v x z Q S1.sub r1 hz k

/-! ### tests -/
/-- a value that is True or False -/
def asB : PV → Option Bool
  | .bl b => some b
  | _ => none
/-- the truth of a value -/
def truth : PV → Option Bool
  | .non => some false
  | .bl b => some b
  | .int i => some (i != 0)
  | .str x => if x.length ≤ 1000000 then some ((x.length : Int) != 0) else none
  | .tup xs => some !xs.isEmpty
  | .lst xs => some !xs.isEmpty
  | _ => none
def dTru (d : DE) : DD Bool := fun ρ => (d ρ).bind fun x ρ => ofO (truth x) ρ
def dAsB (d : DE) : DD Bool := fun ρ => (d ρ).bind fun x ρ => ofO (asB x) ρ
theorem isEmpty_reps {G : Hp} : ∀ {ps : List PV} {vs : List V}, Reps F G ps vs → ps.isEmpty = vs.isEmpty
  | _, _, .nil => rfl
  | _, _, .cons _ _ => rfl
theorem tru_of {K : PySem.W.Frag} {G H : Hp} {x : PV} {v : V} {k : Bool} (hK : F.K = K) (s : Same G H) (r : Rep F G x v) (h : truth x = some k) : TruV K v H k := by
  subst hK
  cases r with
  | non => cases h; rfl
  | bl b => cases h; rfl
  | int i => cases h; rfl
  | str x =>
    have h : (if x.length ≤ 1000000 then some ((x.length : Int) != 0) else none) = some k := h
    by_cases l : x.length ≤ 1000000
    · rw [if_pos l] at h
      cases h
      exact ⟨Nat.le_trans l (by decide), rfl⟩
    · rw [if_neg l] at h
      cases h
  | tup q r => cases h; exact .inr (.inl ⟨_, SqT.same s q, by rw [isEmpty_reps r]⟩)
  | lst q r => cases h; exact .inl ⟨_, .of (s _ _ q), by rw [isEmpty_reps r]⟩
  | dK => cases h
  | dT => cases h
  | ins => cases h
  | scr => cases h
/-- an expression (no comparison, and, or, not) as a test -/
theorem pt_tru {d : DE} (hK : F.K = X.K) (h : PE X a (tE F io W d)) (he : ∀ whole, isTrue a X.env whole = (do let v ← whole; standAt a.pos; holding [v] (truthy v)) := by intro _; rfl) : PT X a (tT F io W (dTru d)) := by
  refine (pt_truth h he).imp fun σ H Q ⟨G, Fr, ρ, S, q⟩ => ?_
  refine tD.step S q fun v H1 G1 ρ1 x e1 S1 r1 q1 => ?_
  obtain ⟨k, hk, kk⟩ := Post.ofO (γ := Unit) q1 S1
  exact ⟨k, tru_of hK S1.sub r1 hk, kk k G1 H1 (Grow.refl S1.sub) rfl⟩
theorem asB_bl {G : Hp} {x : PV} {v : V} {k : Bool} (r : Rep F G x v) (h : asB x = some k) : v = .bl k := by
  cases r with
  | bl b => cases h; rfl
  | _ => cases h
theorem pt_cmp' {op : CmpOp} {r : R2} {f : PV → PV → Option PV} {da db : DE} (ho : OpR X (compareOp op) r) (hb : BinOk F r f) (h1 : PE X a (tE F io W da)) (h2 : PE X b (tE F io W db)) (hm : behindInMarks op b = false) : PT X (.Compare a [op] [b] pos) (tT F io W (dAsB (dBin f da db))) := by
  refine (pt_cmpR ho h1 h2 hm).imp fun σ H Q ⟨G, Fr, ρ, S, q⟩ => ?_
  refine bin_step (F := F) (io := io) (W := W) hb ?_
  refine tD.step S q fun v H1 G1 ρ1 x e1 S1 r1 q1 => ?_
  obtain ⟨k, hk, kk⟩ := Post.ofO (γ := Unit) q1 S1
  exact ⟨k, asB_bl r1 hk, kk k G1 H1 (Grow.refl S1.sub) rfl⟩
def dNot (d : DD Bool) : DD Bool := fun ρ => (d ρ).bind fun k ρ => .ok (!k) ρ
def dAnd (d u : DD Bool) : DD Bool := fun ρ => (d ρ).bind fun k ρ => if k = true then u ρ else .ok false ρ
def dOr (d u : DD Bool) : DD Bool := fun ρ => (d ρ).bind fun k ρ => if k = true then .ok true ρ else u ρ
theorem qt_not {d : DD Bool} (h : PT X a (tT F io W d)) : PT X (.UnaryOp .Not a pos) (tT F io W (dNot d)) := by
  refine (pt_not h).imp fun σ H Q ⟨G, Fr, ρ, S, q⟩ => ?_
  exact tD.step S q fun v H1 G1 ρ1 x e1 S1 r1 q1 => q1 (!v) G1 H1 (Same.refl _) S1 (by rw [show x = v from r1])
theorem qw_and1 {d : DD Bool} (h : PT X a (tT F io W d)) : PW X (.BoolOp .And [a] pos) (tT F io W d) := pw_and1 h
theorem qw_or1 {d : DD Bool} (h : PT X a (tT F io W d)) : PW X (.BoolOp .Or [a] pos) (tT F io W d) := pw_or1 h
theorem qw_and {d u : DD Bool} (h : PT X a (tT F io W d)) (h2 : PW X (.BoolOp .And (b :: es) pos) (tT F io W u)) : PW X (.BoolOp .And (a :: b :: es) pos) (tT F io W (dAnd d u)) := by
  refine (pw_and h h2).imp fun σ H Q ⟨G, Fr, ρ, S, q⟩ => ?_
  refine tD.step S q fun v H1 G1 ρ1 x e1 S1 r1 q1 => ?_
  have r1 : x = v := r1
  subst r1
  cases x with
  | true =>
    rw [if_pos rfl] at q1 ⊢
    exact ⟨G1, Fr, ρ1, S1, q1⟩
  | false =>
    rw [if_neg Bool.false_ne_true] at q1 ⊢
    exact q1.done S1 rfl
theorem qw_or {d u : DD Bool} (h : PT X a (tT F io W d)) (h2 : PW X (.BoolOp .Or (b :: es) pos) (tT F io W u)) : PW X (.BoolOp .Or (a :: b :: es) pos) (tT F io W (dOr d u)) := by
  refine (pw_or h h2).imp fun σ H Q ⟨G, Fr, ρ, S, q⟩ => ?_
  refine tD.step S q fun v H1 G1 ρ1 x e1 S1 r1 q1 => ?_
  have r1 : x = v := r1
  subst r1
  cases x with
  | true =>
    rw [if_pos rfl] at q1 ⊢
    exact q1.done S1 rfl
  | false =>
    rw [if_neg Bool.false_ne_true] at q1 ⊢
    exact ⟨G1, Fr, ρ1, S1, q1⟩
/-! ### .. as values -/
def dAndV (d u : DE) : DE := fun ρ => (d ρ).bind fun x ρ => match x with
  | .bl true => u ρ
  | .bl false => .ok (.bl false) ρ
  | _ => .stuck
def dOrV (d u : DE) : DE := fun ρ => (d ρ).bind fun x ρ => match x with
  | .bl true => .ok (.bl true) ρ
  | .bl false => u ρ
  | _ => .stuck
def dNotV (d : DE) : DE := fun ρ => (d ρ).bind fun x ρ => match x with
  | .bl k => .ok (.bl (!k)) ρ
  | _ => .stuck
theorem pp_one {op : BoolOp} {d : DE} (h : PE X a (tE F io W d)) : PE X (.BoolOp op [a] pos) (tE F io W d) := pe_one h
theorem pp_and {d u : DE} (h : PE X a (tE F io W d)) (h2 : PE X (.BoolOp .And (b :: es) pos) (tE F io W u)) : PE X (.BoolOp .And (a :: b :: es) pos) (tE F io W (dAndV d u)) := by
  refine (pe_and h h2).imp fun σ H Q ⟨G, Fr, ρ, S, q⟩ => ?_
  refine tD.step S q fun v H1 G1 ρ1 x e1 S1 r1 q1 => ?_
  cases r1 with
  | bl k =>
    cases k with
    | true => exact ⟨true, rfl, by rw [if_pos rfl]; exact ⟨G1, Fr, ρ1, S1, q1⟩⟩
    | false => exact ⟨false, rfl, by rw [if_neg Bool.false_ne_true]; exact q1.done S1 (.bl false)⟩
  | _ => exact q1.elim
theorem pp_or {d u : DE} (h : PE X a (tE F io W d)) (h2 : PE X (.BoolOp .Or (b :: es) pos) (tE F io W u)) : PE X (.BoolOp .Or (a :: b :: es) pos) (tE F io W (dOrV d u)) := by
  refine (pe_or h h2).imp fun σ H Q ⟨G, Fr, ρ, S, q⟩ => ?_
  refine tD.step S q fun v H1 G1 ρ1 x e1 S1 r1 q1 => ?_
  cases r1 with
  | bl k =>
    cases k with
    | true => exact ⟨true, rfl, by rw [if_pos rfl]; exact q1.done S1 (.bl true)⟩
    | false => exact ⟨false, rfl, by rw [if_neg Bool.false_ne_true]; exact ⟨G1, Fr, ρ1, S1, q1⟩⟩
  | _ => exact q1.elim
theorem pp_not {d : DE} (h : PE X a (tE F io W d)) : PE X (.UnaryOp .Not a pos) (tE F io W (dNotV d)) := by
  refine (pe_not h).imp fun σ H Q ⟨G, Fr, ρ, S, q⟩ => ?_
  refine tD.step S q fun v H1 G1 ρ1 x e1 S1 r1 q1 => ?_
  cases r1 with
  | bl k => exact ⟨k, rfl, q1.done S1 (.bl (!k))⟩
  | _ => exact q1.elim
/-- a if t else b -/
def dIf (t : DD Bool) (d u : DE) : DE := fun ρ => (t ρ).bind fun k ρ => if k = true then d ρ else u ρ
theorem pp_if {t : DD Bool} {d u : DE} (hc : PT X c (tT F io W t)) (h : PE X a (tE F io W d)) (h2 : PE X b (tE F io W u)) : PE X (.IfExp c a b pos) (tE F io W (dIf t d u)) := by
  refine (pe_ifExp hc h h2).imp fun σ H Q ⟨G, Fr, ρ, S, q⟩ => ?_
  refine tD.step S q fun v H1 G1 ρ1 x e1 S1 r1 q1 => ?_
  have r1 : x = v := r1
  subst r1
  cases x with
  | true =>
    rw [if_pos rfl] at q1 ⊢
    exact ⟨G1, Fr, ρ1, S1, q1⟩
  | false =>
    rw [if_neg Bool.false_ne_true] at q1 ⊢
    exact ⟨G1, Fr, ρ1, S1, q1⟩
/-- a < b < c -/
def dChain (f g : PV → PV → Option PV) (da db dc : DE) : DE := fun ρ => (da ρ).bind fun x ρ => (db ρ).bind fun y ρ => match f x y with
  | some (.bl true) => (dc ρ).bind fun z ρ => ofO (g y z) ρ
  | some (.bl false) => .ok (.bl false) ρ
  | _ => .stuck
/-- a comparison that yields a bool and changes nothing -/
def CmpOk (F : Fx) (r : R2) (f : PV → PV → Option PV) : Prop := ∀ (G H : Hp) (v u : V) (x y z : PV) (Q : VK), Same G H → Rep F G x v → Rep F G y u → f x y = some z → ∃ k, z = .bl k ∧ (Q (.bl k) H → r v u H Q)
theorem CmpOk.bin {r : R2} {f : PV → PV → Option PV} (h : CmpOk F r f) : BinOk F r f := fun G H v u x y z Q s rx ry e k => by
  obtain ⟨b, rfl, q⟩ := h G H v u x y z Q s rx ry e
  exact q (k _ G H (Grow.refl s) (.bl b))
theorem chain_step {r r' : R2} {f g : PV → PV → Option PV} {da db dc : DE} (hb : CmpOk F r f) (hb' : BinOk F r' g) {σ : L2.St} {H : Hp} {Q : VK} (h : tE F io W (dChain f g da db dc) σ H Q) :
    tChain r r' (tE F io W da) (tE F io W db) (tE F io W dc) σ H Q := by
  obtain ⟨G, Fr, ρ, S, q⟩ := h
  refine tD.step S q fun v H1 G1 ρ1 x e1 S1 r1 q1 => tD.step S1 q1 fun u H2 G2 ρ2 y e2 S2 r2 q2 => ?_
  cases e : f x y with
  | none => rw [e] at q2; exact q2.elim
  | some z =>
    obtain ⟨k, rfl, kk⟩ := hb G2 H2 v u x y z (fun z H3 => ∃ k, z = .bl k ∧ (if k = true then (tE F io W dc) σ H3 fun w' H4 => r' u w' H4 Q else Q (.bl false) H3)) S2.sub (r1.same e2) r2 e
    rw [e] at q2
    refine kk ⟨k, rfl, ?_⟩
    cases k with
    | true =>
      rw [if_pos rfl]
      refine tD.step S2 q2 fun w H3 G3 ρ3 z e3 S3 r3 q3 => ?_
      obtain ⟨z', hz, k'⟩ := Post.ofO (γ := Unit) q3 S3
      exact hb' G3 H3 u w y z z' Q S3.sub (r2.same e3) r3 hz k'
    | false =>
      rw [if_neg Bool.false_ne_true]
      exact q2.done S2 (.bl false)
theorem pp_chain {op op' : CmpOp} {r r' : R2} {f g : PV → PV → Option PV} {da db dc : DE} (ho : OpR X (compareOp op) r) (ho' : OpR X (compareOp op') r') (hb : CmpOk F r f) (hb' : BinOk F r' g) (h1 : PE X a (tE F io W da)) (h2 : PE X b (tE F io W db)) (h3 : PE X c (tE F io W dc))
    (hm : lastMarks [op, op'] [b, c] = false := by with_unfolding_all rfl) : PE X (.Compare a [op, op'] [b, c] pos) (tE F io W (dChain f g da db dc)) :=
  (pe_chain ho ho' h1 h2 h3 hm).imp fun _ _ _ h => chain_step hb hb' h
theorem qt_chain {op op' : CmpOp} {r r' : R2} {f g : PV → PV → Option PV} {da db dc : DE} (ho : OpR X (compareOp op) r) (ho' : OpR X (compareOp op') r') (hb : CmpOk F r f) (hb' : BinOk F r' g) (h1 : PE X a (tE F io W da)) (h2 : PE X b (tE F io W db)) (h3 : PE X c (tE F io W dc))
    (hm : lastMarks [op, op'] [b, c] = false := by with_unfolding_all rfl) : PT X (.Compare a [op, op'] [b, c] pos) (tT F io W (dAsB (dChain f g da db dc))) := by
  refine (pt_chain ho ho' h1 h2 h3 hm).imp fun σ H Q ⟨G, Fr, ρ, S, q⟩ => ?_
  refine chain_step (F := F) (io := io) (W := W) hb hb' ?_
  refine tD.step S q fun v H1 G1 ρ1 x e1 S1 r1 q1 => ?_
  obtain ⟨k, hk, kk⟩ := Post.ofO (γ := Unit) q1 S1
  exact ⟨k, asB_bl r1 hk, kk k G1 H1 (Grow.refl S1.sub) rfl⟩

/-! ### calls of the text's own defs -/
/-- what a def hands back -/
inductive FR where
  | ok (p : PV)
  | exc (c : Nat) (as : List PV)
  | stuck
/-- a def of n parameters that changes nothing does what φ says -/
def spP (F : Fx) (n : Nat) (φ : List PV → FR) : Sp := fun vs H Q E => vs.length = n ∧ ∃ G ps, Same G H ∧ Reps F G ps vs ∧ match φ ps with
  | .ok r => ∀ v G' H', Grow G H G' H' → Rep F G' r v → Q v H'
  | .exc c as => ∀ d G' H', Grow G H G' H' → ExcAt F G' H' c as d → E (.ref (F.cls c)) d H'
  | .stuck => False
class LenA (d : DD (List PV)) (n : outParam Nat) : Prop where
  len : ∀ ρ xs ρ', d ρ = .ok xs ρ' → xs.length = n
instance : LenA dNil 0 := ⟨fun ρ xs ρ' h => by cases h; rfl⟩
instance {d : DE} {r : DD (List PV)} {n : Nat} [L : LenA r n] : LenA (dCons d r) (n + 1) := ⟨fun ρ xs ρ' h => by
  unfold dCons at h
  cases e : d ρ with
  | ok x ρ1 =>
    rw [e] at h
    have h : (r ρ1).bind (fun xs ρ => Res.ok (x :: xs) ρ) = .ok xs ρ' := h
    cases e2 : r ρ1 with
    | ok ys ρ2 =>
      rw [e2] at h
      cases h
      exact congrArg (· + 1) (L.len _ _ _ e2)
    | exc c as ρ2 => rw [e2] at h; cases h
    | stuck => rw [e2] at h; cases h
  | exc c as ρ1 => rw [e] at h; cases h
  | stuck => rw [e] at h; cases h⟩
def dCall (φ : List PV → FR) (d : DD (List PV)) : DE := fun ρ => (d ρ).bind fun xs ρ => match φ xs with
  | .ok r => .ok r ρ
  | .exc c as => .exc c as ρ
  | .stuck => .stuck
theorem pp_call {k : Nat} {f : Addr} {fd : FuncData} {ps : List Str} {φ : List PV → FR} {x : Str} {p : Pos} {d : DD (List PV)} (n : Nat) (tk : Takes X W) (G : FnG X.prog X.w X.K X.mg X.base (CX X.prog X.w) k f fd ps (spP F n φ)) (hr : RoomG k X.A) (hm : X.mg x = some (.ref f))
    (hk : PySem.W.keepIn X.K (.ref f) = true) (hb : Binds X.K fd ps []) (hl : ps.length = n) (hg : Gl X x) (ha : PA X (e :: es) (tA F io W d)) (hn : (e :: es).length = n := by rfl) (hdb : (x == ("__debug__" : Str)) = false := by decide)
    (he : starEach (e :: es) X.env = (false, eval e X.env) :: starEach es X.env := by rfl) (hpl : (backTo pos (starEach es X.env)).any (·.1) = false := by rfl) [L : LenA d n] :
    PE X (.Call (.Name x p) (e :: es) [] pos) (tE F io W (dCall φ d)) := by
  refine (pe_callG (E := fun σ => WE W σ) G hr hg hm hk hb (fun σ => passAt tk σ) ha hdb he hpl).imp fun σ H Q ⟨G, Fr, ρ, S, q⟩ => ?_
  refine ⟨G, Fr, ρ, S, ?_⟩
  have q : Post (Rep F) F io W Fr G σ Q ((d ρ).bind fun xs ρ => match φ xs with
    | .ok r => .ok r ρ
    | .exc c as => .exc c as ρ
    | .stuck => .stuck) := q
  cases ed : d ρ with
  | stuck => rw [ed] at q; exact q
  | exc c as ρ1 => rw [ed] at q; exact q
  | ok xs ρ1 =>
    rw [ed] at q
    intro vs G1 H1 e1 S1 r1
    refine ⟨by rw [← r1.length]; exact L.len _ _ _ ed, G1, xs, S1.sub, r1, ?_⟩
    have q : Post (Rep F) F io W Fr G σ Q (match φ xs with
      | .ok r => .ok r ρ1
      | .exc c as => .exc c as ρ1
      | .stuck => .stuck) := q
    cases ef : φ xs with
    | ok r =>
      rw [ef] at q
      exact fun v G2 H2 g r2 => q v G2 H2 (e1.trans g.gle) (S1.grow g) r2
    | exc c as =>
      rw [ef] at q
      exact fun dd G2 H2 g x2 => q dd G2 H2 (e1.trans g.gle) (S1.grow g) x2
    | stuck => rw [ef] at q; exact q
end
end Pl

set_option maxHeartbeats 4000000
/-! P2: operators, comparisons, subscripts, slices of plain values. -/
namespace Pl
open PySem PySem.Spec PyProof.Rows L2

/-! ### data -/
mutual
def pdt : PV → PyData
  | .non => .none
  | .bl b => .bool b
  | .int i => .int i
  | .str x => .str x
  | .tup xs => .tuple (pdts xs)
  | .lst xs => .list (pdts xs)
  | .dct _ _ => .dict []
  | .dks _ _ => .dict []
  | .ins _ _ => .dict []
  | .scr _ => .dict []
def pdts : List PV → List PyData
  | [] => []
  | x :: xs => pdt x :: pdts xs
end
section
variable {F : Fx} {G H : Hp} {K : PySem.W.Frag}
mutual
theorem dp_of (s : Same G H) : ∀ {p : PV} {v : V}, Rep F G p v → SeqAt.shaped (pdt p) = true ∨ (pdt p).canLay0 = true → Dp F.K H v (pdt p)
  | _, _, .non, _ => .non
  | _, _, .bl b, _ => .bl b
  | _, _, .int i, _ => .int i
  | _, _, .str x, _ => .str x
  | _, _, .tup h r, c => .tup (SqT.same s h) (dps_of s r (by rcases c with c | c; exact SeqAt.canLay_of_shaped c; exact c))
  | _, _, .lst h r, c => .lst (.of (s _ _ h)) (dps_of s r (by rcases c with c | c; exact SeqAt.canLay_of_shaped c; exact c))
  | _, _, .scr h, c => by rcases c with c | c <;> cases c
  | _, _, .dK h k r, c => by rcases c with c | c <;> cases c
  | _, _, .dT h k n b u r, c => by rcases c with c | c <;> cases c
  | _, _, .ins h k r, c => by rcases c with c | c <;> cases c
theorem dps_of (s : Same G H) : ∀ {ps : List PV} {vs : List V}, Reps F G ps vs → PyData.canLayAll0 (pdts ps) = true → DpAll F.K H vs (pdts ps)
  | _, _, .nil, _ => .nil
  | _, _, .cons h r, c => by
    have c2 := Bool.and_eq_true_iff.mp (show (PyData.canLay0 (pdt _) && PyData.canLayAll0 (pdts _)) = true from c)
    exact .cons (dp_of s h (.inr c2.1)) (dps_of s r c2.2)
end
theorem pdts_eq : ∀ xs : List PV, pdts xs = xs.map pdt
  | [] => rfl
  | x :: xs => by rw [pdts, List.map_cons, pdts_eq xs]

/-! ### arithmetic -/
def LIM : Nat := 16000000
theorem lim_line {n : Nat} (h : n ≤ LIM) : n ≤ sizeLine := Nat.le_trans h (by decide)
def pAdd : PV → PV → Option PV
  | .int i, .int j => some (.int (i + j))
  | .str x, .str y => if x.length + y.length ≤ LIM then some (.str (x ++ y)) else none
  | .lst xs, .lst ys => if xs.length + ys.length ≤ LIM then some (.lst (xs ++ ys)) else none
  | .tup xs, .tup ys => if xs.length + ys.length ≤ LIM then some (.tup (xs ++ ys)) else none
  | _, _ => none
def rAdd (K : PySem.W.Frag) : R2 := fun x y H Q => (((rI0 fun i j => .int (i + j)) x y H Q ∨ (∃ i j, x = .str i ∧ y = .str j ∧ i.length + j.length ≤ sizeLine ∧ Q (.str (i ++ j)) H)) ∨ rCat x y H Q) ∨ rCatA K x y H Q
theorem op_addA {X : Cx} : OpR X (binaryOp .Add) (rAdd X.K) := OpR.or (OpR.or (OpR.or op_add op_add_str) op_cat) op_catA
theorem ite_some {α : Type} {c : Prop} [Decidable c] {a b : α} (h : (if c then some a else none) = some b) : c ∧ a = b := by
  by_cases k : c
  · rw [if_pos k] at h
    exact ⟨k, Option.some.inj h⟩
  · rw [if_neg k] at h
    cases h
theorem b_add (hK : F.K = K) : BinOk F (rAdd K) pAdd := by
  subst hK
  intro G H v u x y z Q s rx ry e k
  cases rx <;> cases ry <;> first | (exfalso; cases e; done) | skip
  case int.int i j =>
    cases e
    exact .inl (.inl (.inl ⟨_, _, rfl, rfl, k _ G H (Grow.refl s) (.int _)⟩))
  case str.str i j =>
    obtain ⟨l, rfl⟩ := ite_some e
    exact .inl (.inl (.inr ⟨_, _, rfl, rfl, lim_line l, k _ G H (Grow.refl s) (.str _)⟩))
  case lst.lst xs a vs hx rx ys b us hy ry =>
    obtain ⟨l, rfl⟩ := ite_some e
    refine .inl (.inr ⟨_, _, _, _, rfl, rfl, s _ _ hx, s _ _ hy, by rw [← rx.length, ← ry.length]; exact lim_line l, fun p n => ?_⟩)
    have e1 := same_upd (o := .lst (vs ++ us)) (s.free n)
    exact k _ _ _ (Grow.new1 s n) (.lst upd_same ((rx.same e1).append (ry.same e1)))
  case tup.tup xs a vs hx rx ys b us hy ry =>
    obtain ⟨l, rfl⟩ := ite_some e
    refine .inr ⟨_, _, _, _, rfl, rfl, SqT.same s hx, SqT.same s hy, by rw [← rx.length, ← ry.length]; exact lim_line l, fun e1 => ?_, fun _ e1 => ?_, fun _ _ p n => ?_⟩
    · subst e1
      cases rx
      exact k _ G H (Grow.refl s) (.tup hy ry)
    · subst e1
      cases ry
      rw [List.append_nil] at k
      exact k _ G H (Grow.refl s) (.tup hx rx)
    · have e1 := same_upd (o := .tup (vs ++ us)) (s.free n)
      exact k _ _ _ (Grow.new1 s n) (.tup (.inl (.inl upd_same)) ((rx.same e1).append (ry.same e1)))
def pSub : PV → PV → Option PV
  | .int i, .int j => some (.int (i - j))
  | _, _ => none
theorem b_sub : BinOk F (rI0 fun i j => .int (i - j)) pSub := by
  intro G H v u x y z Q s rx ry e k
  cases rx <;> cases ry <;> first | (exfalso; cases e; done) | skip
  cases e
  exact ⟨_, _, rfl, rfl, k _ G H (Grow.refl s) (.int _)⟩
def pMul : PV → PV → Option PV
  | .int i, .int j => if i.natAbs.log2 + j.natAbs.log2 < 1000000 ∨ j.natAbs < 2 ^ 63 ∨ i.natAbs < 2 ^ 63 then some (.int (i * j)) else none
  | _, _ => none
theorem op_mulA {X : Cx} : OpR X (binaryOp .Mult) (fun x y H Q => (rI CMul fun i j => .int (i * j)) x y H Q ∨ (rI CMulW fun i j => .int (i * j)) x y H Q) := OpR.or op_mul op_mulW
theorem b_mul : BinOk F (fun x y H Q => (rI CMul fun i j => .int (i * j)) x y H Q ∨ (rI CMulW fun i j => .int (i * j)) x y H Q) pMul := by
  intro G H v u x y z Q s rx ry e k
  cases rx <;> cases ry <;> first | (exfalso; cases e; done) | skip
  obtain ⟨l, rfl⟩ := ite_some e
  rcases l with l | l | l
  · exact .inr ⟨_, _, rfl, rfl, l, k _ G H (Grow.refl s) (.int _)⟩
  · exact .inl ⟨_, _, rfl, rfl, .inr (by omega), k _ G H (Grow.refl s) (.int _)⟩
  · exact .inl ⟨_, _, rfl, rfl, .inl (by omega), k _ G H (Grow.refl s) (.int _)⟩
def pDiv : PV → PV → Option PV
  | .int i, .int j => if 0 < j ∧ j.natAbs.log2 < 9000 then some (.int (i / j)) else none
  | _, _ => none
theorem b_div : BinOk F (rI CDivW fun i j => .int (i / j)) pDiv := by
  intro G H v u x y z Q s rx ry e k
  cases rx <;> cases ry <;> first | (exfalso; cases e; done) | skip
  obtain ⟨l, rfl⟩ := ite_some e
  exact ⟨_, _, rfl, rfl, l, k _ G H (Grow.refl s) (.int _)⟩
def pMod : PV → PV → Option PV
  | .int i, .int j => if 0 < j then some (.int (i % j)) else none
  | _, _ => none
theorem b_mod : BinOk F (rI (fun _ j => 0 < j) fun i j => .int (i % j)) pMod := by
  intro G H v u x y z Q s rx ry e k
  cases rx <;> cases ry <;> first | (exfalso; cases e; done) | skip
  obtain ⟨l, rfl⟩ := ite_some e
  exact ⟨_, _, rfl, rfl, l, k _ G H (Grow.refl s) (.int _)⟩
def pNeg : PV → Option PV
  | .int i => some (.int (-i))
  | _ => none
theorem u_neg : UnOk F (rU fun i => .int (-i)) pNeg := by
  intro G H v x z Q s rx e k
  cases rx <;> first | (exfalso; cases e; done) | skip
  cases e
  exact ⟨_, rfl, k _ G H (Grow.refl s) (.int _)⟩

/-! ### comparisons -/
def pLt : PV → PV → Option PV
  | .int i, .int j => some (.bl (decide (i < j)))
  | _, _ => none
def pLe : PV → PV → Option PV
  | .int i, .int j => some (.bl (decide (i ≤ j)))
  | _, _ => none
def pGt : PV → PV → Option PV
  | .int i, .int j => some (.bl (decide (j < i)))
  | _, _ => none
def pGe : PV → PV → Option PV
  | .int i, .int j => some (.bl (decide (j ≤ i)))
  | _, _ => none
theorem c_int {g : Int → Int → Bool} {f : PV → PV → Option PV} (hf : ∀ x y z, f x y = some z → ∃ i j, x = .int i ∧ y = .int j ∧ z = .bl (g i j)) : CmpOk F (rI0 fun i j => .bl (g i j)) f := by
  intro G H v u x y z Q s rx ry e
  obtain ⟨i, j, rfl, rfl, rfl⟩ := hf x y z e
  cases rx
  cases ry
  exact ⟨_, rfl, fun q => ⟨_, _, rfl, rfl, q⟩⟩
theorem c_lt : CmpOk F (rI0 fun i j => .bl (decide (i < j))) pLt := c_int fun x y z e => by cases x <;> cases y <;> cases e; exact ⟨_, _, rfl, rfl, rfl⟩
theorem c_le : CmpOk F (rI0 fun i j => .bl (decide (i ≤ j))) pLe := c_int fun x y z e => by cases x <;> cases y <;> cases e; exact ⟨_, _, rfl, rfl, rfl⟩
theorem c_gt : CmpOk F (rI0 fun i j => .bl (decide (j < i))) pGt := c_int fun x y z e => by cases x <;> cases y <;> cases e; exact ⟨_, _, rfl, rfl, rfl⟩
theorem c_ge : CmpOk F (rI0 fun i j => .bl (decide (j ≤ i))) pGe := c_int fun x y z e => by cases x <;> cases y <;> cases e; exact ⟨_, _, rfl, rfl, rfl⟩
/-- == of data -/
def pEq (x y : PV) : Option PV := if SeqAt.shaped (pdt x) = true ∧ SeqAt.shaped (pdt y) = true then some (.bl (PyData.eqv (pdt x) (pdt y))) else none
def pNe (x y : PV) : Option PV := if SeqAt.shaped (pdt x) = true ∧ SeqAt.shaped (pdt y) = true then some (.bl (!PyData.eqv (pdt x) (pdt y))) else none
theorem c_eq (hK : F.K = K) : CmpOk F (rEqD K) pEq := by
  subst hK
  intro G H v u x y z Q s rx ry e
  obtain ⟨⟨l1, l2⟩, rfl⟩ := ite_some e
  exact ⟨_, rfl, fun q => ⟨_, _, dp_of s rx (.inl l1), dp_of s ry (.inl l2), l1, l2, q⟩⟩
theorem c_ne (hK : F.K = K) : CmpOk F (rNeD K) pNe := by
  subst hK
  intro G H v u x y z Q s rx ry e
  obtain ⟨⟨l1, l2⟩, rfl⟩ := ite_some e
  exact ⟨_, rfl, fun q => ⟨_, _, dp_of s rx (.inl l1), dp_of s ry (.inl l2), l1, l2, q⟩⟩
/-- is None, is not None -/
def isN : PV → Bool
  | .non => true
  | _ => false
def pIsN (x y : PV) : Option PV := if isN y = true then some (.bl (isN x)) else none
def pNotN (x y : PV) : Option PV := if isN y = true then some (.bl (!isN x)) else none
theorem isN_of {p : PV} {v : V} (r : Rep F G p v) : isN p = decide (v = .non) := by cases r <;> rfl
theorem isN_non {p : PV} {v : V} (r : Rep F G p v) (h : isN p = true) : v = .non := by cases r <;> first | rfl | cases h
theorem c_isN : CmpOk F (fun x y H Q => y = .non ∧ Q (.bl (decide (x = .non))) H) pIsN := by
  intro G H v u x y z Q s rx ry e
  obtain ⟨l, rfl⟩ := ite_some e
  exact ⟨_, rfl, fun q => ⟨isN_non ry l, by rw [← isN_of rx]; exact q⟩⟩
theorem c_notN : CmpOk F (fun x y H Q => y = .non ∧ Q (.bl (!decide (x = .non))) H) pNotN := by
  intro G H v u x y z Q s rx ry e
  obtain ⟨l, rfl⟩ := ite_some e
  exact ⟨_, rfl, fun q => ⟨isN_non ry l, by rw [← isN_of rx]; exact q⟩⟩
/-- x in a written list or tuple of flat things; x in a list of data; a text in a text -/
def flatP : PV → Bool
  | .non => true
  | .bl _ => true
  | .int _ => true
  | .str _ => true
  | _ => false
def vFl : PV → V
  | .bl b => .bl b
  | .int i => .int i
  | .str x => .str x
  | _ => .non
def inStr (x y : Str) : Bool := !(Builtin.Str.occurrences y x 0 y.length 1).isEmpty
def pInB (x y : PV) : Option Bool := match y with
  | .lst ys => if SeqAt.shaped (pdt x) = true ∧ SeqAt.shaped (pdt (.lst ys)) = true then some ((pdts ys).any fun z => PyData.eqv z (pdt x)) else none
  | .tup ys => if flatP x = true ∧ ys.all flatP = true then some (inV (vFl x) (ys.map vFl)) else none
  | .str b => match x with
    | .str a => some (inStr a b)
    | _ => none
  | _ => none
def pIn (x y : PV) : Option PV := (pInB x y).map .bl
def pNotIn (x y : PV) : Option PV := (pInB x y).map fun k => .bl (!k)
theorem fl_of {p : PV} {v : V} (r : Rep F G p v) (h : flatP p = true) : v = vFl p ∧ flatV v = true := by cases r <;> first | exact ⟨rfl, rfl⟩ | cases h
theorem fls_of : ∀ {ps : List PV} {vs : List V}, Reps F G ps vs → ps.all flatP = true → vs = ps.map vFl ∧ vs.all flatV = true
  | _, _, .nil, _ => ⟨rfl, rfl⟩
  | _, _, .cons h r, c => by
    obtain ⟨c1, c2⟩ := Bool.and_eq_true_iff.mp (show (flatP _ && List.all _ flatP) = true from c)
    obtain ⟨e1, f1⟩ := fl_of h c1
    obtain ⟨e2, f2⟩ := fls_of r c2
    refine ⟨by rw [List.map_cons, ← e1, ← e2], by rw [List.all_cons, f1, f2] <;> rfl⟩
def rInA (K : PySem.W.Frag) : R2 := fun x y H Q => (rInD K x y H Q ∨ rIn K false x y H Q) ∨ (∃ i j, x = .str i ∧ y = .str j ∧ Q (.bl (!(Builtin.Str.occurrences j i 0 j.length 1).isEmpty)) H)
def rNotInA (K : PySem.W.Frag) : R2 := fun x y H Q => (rNotInD K x y H Q ∨ rIn K true x y H Q) ∨ (∃ i j, x = .str i ∧ y = .str j ∧ Q (.bl (!(!(Builtin.Str.occurrences j i 0 j.length 1).isEmpty))) H)
theorem op_inA {X : Cx} (hu : X.A.units + 65 < cLine) : OpR X (compareOp .In) (rInA X.K) := OpR.or (OpR.or (op_inD hu) op_in_seq) op_in_str
theorem op_notInA {X : Cx} (hu : X.A.units + 65 < cLine) : OpR X (compareOp .NotIn) (rNotInA X.K) := OpR.or (OpR.or (op_notInD hu) op_notIn_seq) op_notin_str
theorem c_in (hK : F.K = K) : CmpOk F (rInA K) pIn := by
  subst hK
  intro G H v u x y z Q s rx ry e
  unfold pIn at e
  cases eb : pInB x y with
  | none => rw [eb] at e; cases e
  | some k =>
    rw [eb] at e
    cases e
    refine ⟨k, rfl, fun q => ?_⟩
    cases ry <;> first | (exfalso; cases eb; done) | skip
    case str b =>
      cases rx <;> first | (exfalso; cases eb; done) | skip
      cases eb
      exact .inr ⟨_, _, rfl, rfl, q⟩
    case tup ys a us hy ry =>
      obtain ⟨⟨l1, l2⟩, rfl⟩ := ite_some eb
      obtain ⟨e1, f1⟩ := fl_of rx l1
      obtain ⟨e2, f2⟩ := fls_of ry l2
      exact .inl (.inr ⟨_, _, rfl, .inr (SqT.same s hy), f1, f2, by rw [e1, e2]; exact q⟩)
    case lst ys a us hy ry =>
      obtain ⟨⟨l1, l2⟩, rfl⟩ := ite_some eb
      exact .inl (.inl ⟨_, _, dp_of s rx (.inl l1), dp_of s (.lst hy ry) (.inl l2), l1, l2, q⟩)
theorem c_notIn (hK : F.K = K) : CmpOk F (rNotInA K) pNotIn := by
  subst hK
  intro G H v u x y z Q s rx ry e
  unfold pNotIn at e
  cases eb : pInB x y with
  | none => rw [eb] at e; cases e
  | some k =>
    rw [eb] at e
    cases e
    refine ⟨!k, rfl, fun q => ?_⟩
    cases ry <;> first | (exfalso; cases eb; done) | skip
    case str b =>
      cases rx <;> first | (exfalso; cases eb; done) | skip
      cases eb
      exact .inr ⟨_, _, rfl, rfl, q⟩
    case tup ys a us hy ry =>
      obtain ⟨⟨l1, l2⟩, rfl⟩ := ite_some eb
      obtain ⟨e1, f1⟩ := fl_of rx l1
      obtain ⟨e2, f2⟩ := fls_of ry l2
      exact .inl (.inr ⟨_, _, rfl, .inr (SqT.same s hy), f1, f2, by rw [e1, e2]; exact q⟩)
    case lst ys a us hy ry =>
      obtain ⟨⟨l1, l2⟩, rfl⟩ := ite_some eb
      exact .inl (.inl ⟨_, _, dp_of s rx (.inl l1), dp_of s (.lst hy ry) (.inl l2), l1, l2, q⟩)

/-! ### subscripts -/
def pIx : PV → PV → Option PV
  | .lst xs, .int i => atI xs i
  | .tup xs, .int i => atI xs i
  | .str x, .int i => if x.length ≤ LIM then (atI x.cps.toList i).map fun c => .str ⟨#[c]⟩ else none
  | _, _ => none
def rIx (K : PySem.W.Frag) : R2 := fun x y H Q => (rIxL K x y H Q ∨ rIxT K x y H Q) ∨ rIxS x y H Q
theorem ix_any {X : Cx} : IxR X (rIx X.K) := by
  intro value slice pins s σ H x y v u Q I rx ry h hs
  rcases h with (h | h) | h
  · exact ix_list value slice pins s σ H x y v u Q I rx ry h hs
  · exact ix_tup value slice pins s σ H x y v u Q I rx ry h hs
  · exact ix_str value slice pins s σ H x y v u Q I rx ry h hs
theorem atI_rep {ps : List PV} {vs : List V} {i : Int} {p : PV} (r : Reps F G ps vs) (h : atI ps i = some p) : ∃ v, atI vs i = some v ∧ Rep F G p v := by
  unfold atI at h ⊢
  rw [← r.length]
  cases e : ixN ps.length i with
  | none => rw [e] at h; cases h
  | some j =>
    rw [e] at h
    obtain ⟨v, h1, h2⟩ := r.get (i := j) (p := p) h
    exact ⟨v, h1, h2⟩
theorem b_ix (hK : F.K = K) : BinOk F (rIx K) pIx := by
  subst hK
  intro G H v u x y z Q s rx ry e k
  cases rx <;> cases ry <;> first | (exfalso; cases e; done) | skip
  case str.int a i =>
    have e : (if a.length ≤ LIM then (atI a.cps.toList i).map (fun c => PV.str ⟨#[c]⟩) else none) = some z := e
    by_cases l : a.length ≤ LIM
    · rw [if_pos l] at e
      cases ea : atI a.cps.toList i with
      | none => rw [ea] at e; cases e
      | some c =>
        rw [ea] at e
        cases e
        exact .inr ⟨_, _, _, rfl, rfl, lim_line l, ea, k _ G H (Grow.refl s) (.str _)⟩
    · rw [if_neg l] at e
      cases e
  case tup.int ps a vs h r i =>
    obtain ⟨v, h1, h2⟩ := atI_rep r e
    exact .inl (.inr ⟨_, _, _, _, rfl, rfl, SqT.same s h, h1, k _ G H (Grow.refl s) h2⟩)
  case lst.int ps a vs h r i =>
    obtain ⟨v, h1, h2⟩ := atI_rep r e
    exact .inl (.inl ⟨_, _, _, _, rfl, rfl, .of (s _ _ h), h1, k _ G H (Grow.refl s) h2⟩)
end
section
variable {X : Cx} {F : Fx} {io : Option Addr} {W : WX} {a b : Expr} {pos : Pos}
theorem pp_ix {da db : DE} (hK : F.K = X.K) (h1 : PE X a (tE F io W da)) (h2 : PE X b (tE F io W db)) (hs : PlainIx b := by intro _ _; rfl) : PE X (.Subscript a b pos) (tE F io W (dBin pIx da db)) :=
  (pe_ix ix_any h1 h2 hs).imp fun _ _ _ h => bin_step (b_ix hK) h
/-! ### slices -/
def dPart (d : Option DE) : DD (Option Int) := match d with
  | none => fun ρ => .ok none ρ
  | some d => fun ρ => (d ρ).bind fun x ρ => match x with
    | .int i => .ok (some i) ρ
    | _ => .stuck
def cutL {α : Type} (xs : List α) (lo hi : Option Int) : List α := (xs.drop (HT.sIx xs.length 0 lo)).take (HT.sIx xs.length xs.length hi - HT.sIx xs.length 0 lo)
def pSl (x : PV) (lo hi : Option Int) : Option PV := match x with
  | .lst xs => some (.lst (cutL xs lo hi))
  | .tup xs => some (.tup (cutL xs lo hi))
  | .str x => if x.length ≤ LIM then some (.str (cutS x lo hi)) else none
  | _ => none
def dSl (da : DE) (dl dh : Option DE) : DE := fun ρ => (da ρ).bind fun x ρ => (dPart dl ρ).bind fun lo ρ => (dPart dh ρ).bind fun hi ρ => ofO (pSl x lo hi) ρ
abbrev RO : Hp → Option Int → Option Int → Prop := fun _ a b => a = b
theorem qo_none : PO X none (tD RO F io W (dPart none)) := ⟨fun pins s σ H Q I ⟨G, Fr, ρ, S, q⟩ => po_none.run pins s σ H Q I (q.done S rfl)⟩
theorem qo_some {d : DE} (h : PE X a (tE F io W d)) : PO X (some a) (tD RO F io W (dPart (some d))) := by
  refine ⟨fun pins s σ H Q I ⟨G, Fr, ρ, S, q⟩ => (po_some h).run pins s σ H Q I ?_⟩
  refine tD.step S q fun v H1 G1 ρ1 x e1 S1 r1 q1 => ?_
  cases r1 <;> first | exact q1.elim | skip
  exact ⟨_, rfl, q1.done S1 rfl⟩
def rSlX (K : PySem.W.Frag) : V → Option Int → Option Int → Hp → VK → Prop := fun x lo hi H Q => (rSlL K x lo hi H Q ∨ rSlA K x lo hi H Q) ∨ rSlS x lo hi H Q
theorem sl_any : SlR X (rSlX X.K) := by
  intro pins s σ H x v vl vu lo hi sl Q I rx hs pl pu h
  rcases h with (h | h) | h
  · exact sl_list pins s σ H x v vl vu lo hi sl Q I rx hs pl pu h
  · exact sl_tupA pins s σ H x v vl vu lo hi sl Q I rx hs pl pu h
  · exact sl_str pins s σ H x v vl vu lo hi sl Q I rx hs pl pu h
theorem cut_rep {G : Hp} {ps : List PV} {vs : List V} (lo hi : Option Int) (r : Reps F G ps vs) : Reps F G (cutL ps lo hi) (cutV vs lo hi) := by
  unfold cutL cutV
  rw [← r.length]
  exact (r.drop _).take _
theorem cut_whole {α : Type} {xs : List α} {lo hi : Option Int} (h : HT.sIx xs.length 0 lo = 0 ∧ HT.sIx xs.length xs.length hi = xs.length) : cutL xs lo hi = xs := by
  unfold cutL
  rw [h.1, h.2, List.drop_zero, Nat.sub_zero, List.take_length]
theorem pp_sl {da : DE} {lo hi : Option Expr} {dl dh : Option DE} {p2 : Pos} (hK : F.K = X.K) (h1 : PE X a (tE F io W da)) (h2 : PO X lo (tD RO F io W (dPart dl))) (h3 : PO X hi (tD RO F io W (dPart dh))) : PE X (.Subscript a (.Slice lo hi none p2) pos) (tE F io W (dSl da dl dh)) := by
  refine (pe_slice sl_any h1 h2 h3).imp fun σ H Q ⟨G, Fr, ρ, S, q⟩ => ?_
  refine tD.step S q fun v H1 G1 ρ1 x e1 S1 r1 q1 => tD.step S1 q1 fun l H2 G2 ρ2 l' e2 S2 r2 q2 => tD.step S2 q2 fun h H3 G3 ρ3 h' e3 S3 r3 q3 => ?_
  have r2 : l' = l := r2
  have r3 : h' = h := r3
  subst r2
  subst r3
  obtain ⟨z, hz, k⟩ := Post.ofO (γ := Unit) q3 S3
  have r1 := r1.same (e2.trans e3)
  cases r1 <;> first | (exfalso; cases hz; done) | skip
  case str x =>
    obtain ⟨l, rfl⟩ := ite_some hz
    exact .inr ⟨_, rfl, lim_line l, k _ G3 H3 (Grow.refl S3.sub) (.str _)⟩
  case tup ps p vs hx r =>
    cases hz
    refine .inl (.inr ⟨_, _, rfl, by rw [← hK]; exact SqT.same S3.sub hx, fun w => ?_, fun w p n => ?_⟩)
    · rw [← r.length] at w
      have := k _ G3 H3 (Grow.refl S3.sub) (by rw [cut_whole w]; exact .tup hx r)
      exact this
    · exact k _ _ _ (Grow.new1 S3.sub n) (.tup (.inl (.inl upd_same)) ((cut_rep _ _ r).same (same_upd (S3.sub.free n))))
  case lst ps p vs hx r =>
    cases hz
    refine .inl (.inl ⟨_, _, rfl, .of (S3.sub _ _ hx), fun p n => ?_⟩)
    exact k _ _ _ (Grow.new1 S3.sub n) (.lst upd_same ((cut_rep _ _ r).same (same_upd (S3.sub.free n))))
end
end Pl

set_option maxHeartbeats 4000000
/-! P3: statements, blocks, loops, a def's body. -/
namespace Pl
open PySem PySem.Spec PyProof.Rows L2

/-- how a statement ends -/
inductive Out where
  | nx (ρ : Rho)
  | rt (p : PV) (ρ : Rho)
  | exc (c : Nat) (as : List PV) (ρ : Rho)
  | stuck
abbrev DS := Rho → Out
def Res.toOut {α : Type} (r : Res α) (k : α → Rho → Out) : Out := match r with
  | .ok a ρ => k a ρ
  | .exc c as ρ => .exc c as ρ
  | .stuck => .stuck
def Out.thn (o : Out) (k : DS) : Out := match o with
  | .nx ρ => k ρ
  | .rt p ρ => .rt p ρ
  | .exc c as ρ => .exc c as ρ
  | .stuck => .stuck
section
variable {F : Fx} {io : Option Addr} {W : WX} {Fr G G' H : Hp} {σ : L2.St} {ρ : Rho} {D : Ends}
def PostS (F : Fx) (io : Option Addr) (W : WX) (Fr G : Hp) (D : Ends) : Out → Prop
  | .nx ρ => ∀ σ' G' H', Same G G' → StOk F io G' Fr H' σ' ρ → D.nx σ' H'
  | .rt p ρ => ∀ v σ' G' H', Same G G' → StOk F io G' Fr H' σ' ρ → Rep F G' p v → D.rt v H'
  | .exc c as ρ => ∀ d σ' G' H', Same G G' → StOk F io G' Fr H' σ' ρ → ExcAt F G' H' c as d → W (.ref (F.cls c)) d σ' H'
  | .stuck => False
def tS (F : Fx) (io : Option Addr) (W : WX) (d : DS) : TS := fun D σ H => ∃ G Fr ρ, StOk F io G Fr H σ ρ ∧ PostS F io W Fr G D (d ρ)
theorem PostS.gle (e : Same G G') : ∀ {o : Out}, PostS F io W Fr G D o → PostS F io W Fr G' D o
  | .nx ρ, h => fun σ1 G1 H1 e1 => h σ1 G1 H1 (e.trans e1)
  | .rt p ρ, h => fun v σ1 G1 H1 e1 => h v σ1 G1 H1 (e.trans e1)
  | .exc c as ρ, h => fun d σ1 G1 H1 e1 => h d σ1 G1 H1 (e.trans e1)
  | .stuck, h => h
theorem tD.stepS {α β : Type} {R : Hp → α → β → Prop} {d : DD α} {k : α → Rho → Out} {Q1 : β → Hp → Prop} (S : StOk F io G Fr H σ ρ) (h : PostS F io W Fr G D ((d ρ).toOut k))
    (f : ∀ v H1 G1 ρ1 x, Same G G1 → StOk F io G1 Fr H1 σ ρ1 → R G1 x v → PostS F io W Fr G1 D (k x ρ1) → Q1 v H1) : tD R F io W d σ H Q1 := by
  refine ⟨G, Fr, ρ, S, ?_⟩
  cases e : d ρ with
  | ok x ρ1 =>
    intro v G1 H1 e1 S1 r1
    rw [e] at h
    exact f v H1 G1 ρ1 x e1 S1 r1 (PostS.gle e1 h)
  | exc c as ρ1 =>
    rw [e] at h
    exact fun d G' H' e1 S1 x => h d σ G' H' e1 S1 x
  | stuck =>
    rw [e] at h
    exact h
theorem PostS.next (h : PostS F io W Fr G D (.nx ρ)) (S : StOk F io G Fr H σ ρ) : D.nx σ H := h σ G H (Same.refl _) S
theorem PostS.imp {D' : Ends} (n : ∀ σ H, D.nx σ H → D'.nx σ H) (r : ∀ v H, D.rt v H → D'.rt v H) : ∀ {o : Out}, PostS F io W Fr G D o → PostS F io W Fr G D' o
  | .nx ρ, h => fun σ1 G1 H1 e1 S1 => n _ _ (h σ1 G1 H1 e1 S1)
  | .rt p ρ, h => fun v σ1 G1 H1 e1 S1 r1 => r _ _ (h v σ1 G1 H1 e1 S1 r1)
  | .exc c as ρ, h => h
  | .stuck, h => h
/-- what comes behind -/
theorem PostS.seq {d : DS} : ∀ {o : Out}, PostS F io W Fr G D (o.thn d) → PostS F io W Fr G { D with nx := fun σ H => tS F io W d D σ H } o
  | .nx ρ, h => fun σ1 G1 H1 e1 S1 => ⟨G1, Fr, ρ, S1, PostS.gle e1 h⟩
  | .rt p ρ, h => h
  | .exc c as ρ, h => h
  | .stuck, h => h
end
theorem _root_.L2.PS.imp {X : Cx} {st : Stmt} {t t' : TS} (h : PS X st t) (i : ∀ D σ H, t' D σ H → t D σ H) : PS X st t' := ⟨fun pins s σ H D I w => h.run pins s σ H D I (i D σ H w)⟩
theorem _root_.L2.PSs.imp {X : Cx} {st : List Stmt} {t t' : TS} (h : PSs X st t) (i : ∀ D σ H, t' D σ H → t D σ H) : PSs X st t' := ⟨fun pins s σ H D I w => h.run pins s σ H D I (i D σ H w)⟩

section
variable {X : Cx} {F : Fx} {io : Option Addr} {W : WX} {st : Stmt} {rest body : List Stmt} {a b c e : Expr} {pos : Pos}
def sNil : DS := fun ρ => .nx ρ
def sSeq (d u : DS) : DS := fun ρ => (d ρ).thn u
theorem ss_nil : PSs X [] (tS F io W sNil) := pss_nil.imp fun D σ H ⟨G, Fr, ρ, S, q⟩ => PostS.next q S
theorem ss_cons {d u : DS} (h : PS X st (tS F io W d)) (h2 : PSs X rest (tS F io W u)) : PSs X (st :: rest) (tS F io W (sSeq d u)) :=
  (pss_cons h h2).imp fun D σ H ⟨G, Fr, ρ, S, q⟩ => ⟨G, Fr, ρ, S, PostS.seq q⟩
theorem ss_one {d : DS} (h : PS X st (tS F io W d)) : PSs X [st] (tS F io W d) := pss_one h
theorem st_pass : PS X (.Pass pos) (tS F io W sNil) := ps_pass.imp fun D σ H ⟨G, Fr, ρ, S, q⟩ => PostS.next q S
/-- an expression whose value is dropped -/
def sExpr (d : DE) : DS := fun ρ => (d ρ).toOut fun _ ρ => .nx ρ
theorem st_expr {d : DE} (h : PE X e (tE F io W d)) (hs : swapsWith e none pos.line X.env = pure false := by rfl) : PS X (.Expr e pos) (tS F io W (sExpr d)) :=
  (ps_expr h hs).imp fun D σ H ⟨G, Fr, ρ, S, q⟩ => tD.stepS S q fun v H1 G1 ρ1 x e1 S1 r1 q1 => PostS.next q1 S1
def sRet (d : DE) : DS := fun ρ => (d ρ).toOut fun x ρ => .rt x ρ
theorem st_ret {d : DE} (h : PE X e (tE F io W d)) : PS X (.Return (some e) pos) (tS F io W (sRet d)) :=
  (ps_ret h).imp fun D σ H ⟨G, Fr, ρ, S, q⟩ => tD.stepS S q fun v H1 G1 ρ1 x e1 S1 r1 q1 => q1 v σ G1 H1 (Same.refl _) S1 r1
def sRetN : DS := fun ρ => .rt .non ρ
theorem st_retN : PS X (.Return none pos) (tS F io W sRetN) := ps_retN.imp fun D σ H ⟨G, Fr, ρ, S, q⟩ => q .non σ G H (Same.refl _) S .non
def sIf (t : DD Bool) (d u : DS) : DS := fun ρ => (t ρ).toOut fun k ρ => if k = true then d ρ else u ρ
theorem st_if {t : DD Bool} {d u : DS} {l r : List Stmt} (hc : PT X c (tT F io W t)) (h : PSs X l (tS F io W d)) (h2 : PSs X r (tS F io W u)) : PS X (.If c l r pos) (tS F io W (sIf t d u)) := by
  refine (ps_if hc h h2).imp fun D σ H ⟨G, Fr, ρ, S, q⟩ => ?_
  refine tD.stepS S q fun v H1 G1 ρ1 x e1 S1 r1 q1 => ?_
  have r1 : x = v := r1
  subst r1
  cases x with
  | true =>
    rw [if_pos rfl] at q1 ⊢
    exact ⟨G1, Fr, ρ1, S1, q1⟩
  | false =>
    rw [if_neg Bool.false_ne_true] at q1 ⊢
    exact ⟨G1, Fr, ρ1, S1, q1⟩
/-- name = value -/
def sSet (i : Nat) (d : DE) : DS := fun ρ => (d ρ).toOut fun x ρ => .nx (ρ.set i (some (.val x)))
theorem asg_step {i : Nat} {d : DE} {D : Ends} {σ : L2.St} {H : Hp} (h : tS F io W (sSet i d) D σ H) : tAsg (tE F io W d) (gName i) D σ H := by
  obtain ⟨G, Fr, ρ, S, q⟩ := h
  exact tD.stepS S q fun v H1 G1 ρ1 x e1 S1 r1 q1 => PostS.next q1 (S1.set_val r1)
theorem st_set {i : Nat} {x : Str} {d : DE} {pos' : Pos} (hN : X.N.Nodup) (hi : X.N[i]? = some x) (hx : Loc X.env.scope x) (h : PE X e (tE F io W d)) (hs : swapsWith e (some (.Name x pos')) pos.line X.env = pure false := by rfl)
    (hf : X.fn x = true ∨ X.env.scope.names.lookup x = some .local := by first | exact .inl rfl | exact .inr rfl | assumption) : PS X (.Assign [.Name x pos'] e pos) (tS F io W (sSet i d)) :=
  (ps_set hN hi hx h hs hf).imp fun D σ H q => asg_step q
/-- targets: a name; several names -/
inductive Tg where
  | one (i : Nat)
  | tup (is : List Nat)
def setAll : List Nat → List PV → Rho → Option Rho
  | [], [], ρ => some ρ
  | i :: is, p :: ps, ρ => setAll is ps (ρ.set i (some (.val p)))
  | _, _, _ => none
def Tg.set : Tg → PV → Rho → Option Rho
  | .one i, p, ρ => some (ρ.set i (some (.val p)))
  | .tup is, .tup ps, ρ => setAll is ps ρ
  | .tup _, _, _ => none
def Tg.slots : Tg → List Nat
  | .one i => [i]
  | .tup is => is
theorem wipe_set {i : Nat} {v : Option V} : ∀ {vs : List Nat} {σ : L2.St}, i ∈ vs → wipe (σ.set i v) vs = wipe σ vs
  | [], _, h => by cases h
  | j :: vs, σ, h => by
    show (wipe (σ.set i v) vs).set j none = (wipe σ vs).set j none
    by_cases e : i ∈ vs
    · rw [wipe_set e]
    · rcases List.mem_cons.mp h with rfl | h
      · have c : ∀ (vs : List Nat) (σ : L2.St), i ∉ vs → wipe (σ.set i v) vs = (wipe σ vs).set i v := by
          intro vs
          induction vs with
          | nil => intro σ _; rfl
          | cons k vs ih =>
            intro σ h
            show (wipe (σ.set i v) vs).set k none = ((wipe σ vs).set k none).set i v
            rw [ih σ (fun z => h (List.mem_cons_of_mem _ z)), List.set_comm _ _ (fun z => h (by rw [z]; exact List.mem_cons_self))]
        rw [c vs σ e, List.set_set]
      · exact absurd h e
/-- a target's rule gives this -/
def TgOk (F : Fx) (io : Option Addr) (t : TG) (g : Tg) : Prop := ∀ (G Fr H : Hp) (σ : L2.St) (ρ ρ' : Rho) (p : PV) (v : V) (Q : L2.St → Hp → Prop), StOk F io G Fr H σ ρ → Rep F G p v → g.set p ρ = some ρ' →
  (∀ σ', StOk F io G Fr H σ' ρ' → (∀ vs, (∀ i ∈ g.slots, i ∈ vs) → wipe σ' vs = wipe σ vs) → Q σ' H) → t v σ H Q
theorem tg_one {i : Nat} : TgOk F io (gName i) (.one i) := fun G Fr H σ ρ ρ' p v Q S r e k => by
  cases e
  exact k _ (S.set_val r) fun vs h => wipe_set (h i (List.mem_singleton.mpr rfl))
def TgsOk (F : Fx) (io : Option Addr) (t : TGs) (is : List Nat) : Prop := ∀ (G Fr H : Hp) (σ : L2.St) (ρ ρ' : Rho) (ps : List PV) (vs : List V) (Q : L2.St → Hp → Prop), StOk F io G Fr H σ ρ → Reps F G ps vs → setAll is ps ρ = some ρ' →
  (∀ σ', StOk F io G Fr H σ' ρ' → (∀ vs, (∀ i ∈ is, i ∈ vs) → wipe σ' vs = wipe σ vs) → Q σ' H) → t vs σ H Q
theorem tgs_nil : TgsOk F io gNil [] := fun G Fr H σ ρ ρ' ps vs Q S r e k => by
  cases r with
  | nil => cases e; exact ⟨rfl, k _ S fun _ _ => rfl⟩
  | cons => cases e
theorem tgs_cons {i : Nat} {t : TGs} {is : List Nat} (h : TgsOk F io t is) : TgsOk F io (gCons (gName i) t) (i :: is) := fun G Fr H σ ρ ρ' ps vs Q S r e k => by
  cases r with
  | nil => cases e
  | cons r rr => exact ⟨_, _, rfl, h G Fr H _ _ _ _ _ Q (S.set_val r) rr e fun σ' S' w => k σ' S' fun vs hv => (w vs fun j hj => hv j (List.mem_cons_of_mem _ hj)).trans (wipe_set (hv i List.mem_cons_self))⟩
theorem setAll_len : ∀ {is : List Nat} {ps : List PV} {ρ ρ' : Rho}, setAll is ps ρ = some ρ' → ps.length = is.length
  | [], [], _, _, _ => rfl
  | i :: is, p :: ps, ρ, ρ', h => congrArg (· + 1) (setAll_len (is := is) (ps := ps) h)
  | [], _ :: _, _, _, h => by cases h
  | _ :: _, [], _, _, h => by cases h
theorem tg_tup {t : TGs} {is : List Nat} {n : Nat} (hK : F.K = X.K) (h : TgsOk F io t is) (hn : is.length = n) : TgOk F io (gTup X.K n t) (.tup is) := fun G Fr H σ ρ ρ' p v Q S r e k => by
  cases r <;> first | (exfalso; cases e; done) | skip
  case tup ps a vs hx r =>
    exact ⟨_, _, rfl, by rw [← hK]; exact SqT.same S.sub hx, by rw [← r.length, ← hn]; exact setAll_len e, h G Fr H σ ρ ρ' ps vs Q S r e k⟩
/-- target = value -/
def sAsg (g : Tg) (d : DE) : DS := fun ρ => (d ρ).toOut fun x ρ => match g.set x ρ with
  | some ρ' => .nx ρ'
  | none => .stuck
theorem st_asg {tg : Expr} {t : TG} {g : Tg} {d : DE} (h : PE X e (tE F io W d)) (hg : PG X tg t) (ht : TgOk F io t g) (hs : swapsWithSole [tg] e pos.line X.env = pure false := by rfl) (hw : swappedStores [tg] e X.env = pure none := by rfl)
    (h1 : (assignEach [tg] X.env).map (·.2) = [assign tg X.env] := by rfl) : PS X (.Assign [tg] e pos) (tS F io W (sAsg g d)) := by
  refine (ps_asg h hg hs hw h1).imp fun D σ H ⟨G, Fr, ρ, S, q⟩ => ?_
  refine tD.stepS S q fun v H1 G1 ρ1 x e1 S1 r1 q1 => ?_
  cases eg : g.set x ρ1 with
  | none => rw [eg] at q1; exact q1.elim
  | some ρ2 =>
    rw [eg] at q1
    exact ht G1 Fr H1 σ ρ1 ρ2 x v D.nx S1 r1 eg fun σ' S2 _ => PostS.next q1 S2
/-- a, b = x, y of local names -/
def sPar (i j : Nat) (d : DD (List PV)) : DS := fun ρ => (d ρ).toOut fun xs ρ => match xs with
  | [x, y] => .nx ((ρ.set i (some (.val x))).set j (some (.val y)))
  | _ => .stuck
theorem st_par {i j : Nat} {x y : Str} {d : DD (List PV)} {px py pt : Pos} {kt k2 pt2} (hc : X.calm = true) (hN : X.N.Nodup) (hi : X.N[i]? = some x) (hj : X.N[j]? = some y) (hij : i ≠ j)
    (hx : X.env.scope.names.lookup x = some .local) (hy : X.env.scope.names.lookup y = some .local) (ha : PA X [a, b] (tA F io W d))
    (hw : swappedStores [.Tuple [.Name x px, .Name y py] kt pt] (.Tuple [a, b] k2 pt2) X.env = pure (some [x, y]))
    (hs : swapsWithSole [.Tuple [.Name x px, .Name y py] kt pt] (.Tuple [a, b] k2 pt2) pos.line X.env = pure false := by rfl) :
    PS X (.Assign [.Tuple [.Name x px, .Name y py] kt pt] (.Tuple [a, b] k2 pt2) pos) (tS F io W (sPar i j d)) := by
  refine (ps_par hc hN hi hj hij hx hy ha hw hs).imp fun D σ H ⟨G, Fr, ρ, S, q⟩ => ?_
  refine tD.stepS S q fun vs H1 G1 ρ1 xs e1 S1 r1 q1 => ?_
  cases r1 with
  | nil => exact q1.elim
  | cons r rr =>
    cases rr with
    | nil => exact q1.elim
    | cons r2 rr =>
      cases rr with
      | cons => exact q1.elim
      | nil => exact ⟨_, _, rfl, PostS.next q1 ((S1.set_val r).set_val r2)⟩
/-- name op= e -/
def sAug (i : Nat) (f : PV → PV → Option PV) (d : DE) : DS := fun ρ => match ρ[i]? with
  | some (some (.val x)) => (d ρ).toOut fun y ρ => match f x y with
    | some z => .nx (ρ.set i (some (.val z)))
    | none => .stuck
  | _ => .stuck
def IpOk (F : Fx) (r : TIp) (f : PV → PV → Option PV) : Prop := ∀ (G H : Hp) (v u : V) (x y z : PV) (Q : VK), Same G H → Rep F G x v → Rep F G y u → f x y = some z →
  (∀ v' G' H', Grow G H G' H' → Rep F G' z v' → Q v' H') → r v u H Q
theorem ip_addI : IpOk F (ipI fun i j => i + j) (fun x y => match x, y with
    | .int i, .int j => some (.int (i + j))
    | _, _ => none) := by
  intro G H v u x y z Q s rx ry e k
  cases rx <;> cases ry <;> first | (exfalso; cases e; done) | skip
  cases e
  exact ⟨_, _, rfl, rfl, k _ G H (Grow.refl s) (.int _)⟩
theorem st_aug {i : Nat} {x : Str} {d : DE} {op : Operator} {ti : TIp} {f : PV → PV → Option PV} {pos' : Pos} (hN : X.N.Nodup) (hi : X.N[i]? = some x) (hx : Loc X.env.scope x) (h : PE X e (tE F io W d)) (ho : PIp X op ti) (hp : IpOk F ti f)
    (hf : X.fn x = true ∨ X.env.scope.names.lookup x = some .local := by first | exact .inl rfl | exact .inr rfl | assumption) : PS X (.AugAssign (.Name x pos') op e pos) (tS F io W (sAug i f d)) := by
  refine (ps_aug hN hi hx h ho hf).imp fun D σ H ⟨G, Fr, ρ, S, q⟩ => ?_
  unfold sAug at q
  cases ei : ρ[i]? with
  | none => rw [ei] at q; exact q.elim
  | some o =>
    cases o with
    | none => rw [ei] at q; exact q.elim
    | some sv =>
      cases sv with
      | own => rw [ei] at q; exact q.elim
      | inp => rw [ei] at q; exact q.elim
      | val x =>
        rw [ei] at q
        obtain ⟨v, h1, h2⟩ := S.val i x ei
        refine ⟨v, h1, ?_⟩
        refine tD.stepS S q fun u H1 G1 ρ1 y e1 S1 r1 q1 => ?_
        cases ez : f x y with
        | none => rw [ez] at q1; exact q1.elim
        | some z =>
          rw [ez] at q1
          refine hp G1 H1 v u x y z _ S1.sub (h2.same e1) r1 ez fun v' G2 H2 g r2 => ?_
          exact PostS.next (PostS.gle g.gle q1) ((S1.grow g).set_val r2)

/-! ### while -/
def whileL (t : DD Bool) (d : DS) : Nat → DS
  | 0, _ => .stuck
  | n + 1, ρ => (t ρ).toOut fun k ρ => if k = true then (d ρ).thn (whileL t d n) else .nx ρ
theorem st_while {t : DD Bool} {d : DS} (n : Nat) (hp : PassesOwn (model X.prog X.w) X.A X.env X.xe) (hc : PT X c (tT F io W t)) (hb : PSs X body (tS F io W d)) : PS X (.While c body [] pos) (tS F io W (whileL t d n)) := by
  refine (ps_while hp hc hb).imp fun D σ H ⟨G0, Fr, ρ0, S0, q0⟩ => ?_
  refine ⟨fun m σ H => ∃ G ρ, Same G0 G ∧ StOk F io G Fr H σ ρ ∧ PostS F io W Fr G D (whileL t d m ρ), ⟨n, G0, ρ0, Same.refl _, S0, q0⟩, ?_⟩
  rintro m σ H ⟨G, ρ, e0, S, q⟩
  cases m with
  | zero => exact q.elim
  | succ m =>
    refine tD.stepS S q fun v H1 G1 ρ1 x e1 S1 r1 q1 => ?_
    have r1 : x = v := r1
    subst r1
    cases x with
    | true =>
      rw [if_pos rfl] at q1 ⊢
      refine ⟨fun σ H => ∃ G ρ, Same G0 G ∧ StOk F io G Fr H σ ρ ∧ PostS F io W Fr G D (whileL t d m ρ), fun σ' H' h => ⟨m, Nat.lt_succ_self m, h⟩, ?_⟩
      refine ⟨G1, Fr, ρ1, S1, ?_⟩
      cases ed : d ρ1 with
      | nx ρ2 =>
        rw [ed] at q1
        exact fun σ2 G2 H2 e2 S2 => ⟨G2, ρ2, (e0.trans e1).trans e2, S2, PostS.gle e2 q1⟩
      | rt p ρ2 => rw [ed] at q1; exact q1
      | exc c as ρ2 => rw [ed] at q1; exact q1
      | stuck => rw [ed] at q1; exact q1
    | false =>
      rw [if_neg Bool.false_ne_true] at q1 ⊢
      exact PostS.next q1 S1

/-! ### for -/
def forL (g : Tg) (d : DS) : List PV → DS
  | [], ρ => .nx ρ
  | p :: ps, ρ => match g.set p ρ with
    | some ρ' => (d ρ').thn (forL g d ps)
    | none => .stuck
/-- what is walked yields these values, turn by turn; it stands while what stands still stands -/
structure Yields (F : Fx) (J : It) (G0 : Hp) (ps : List PV) : Prop where
  go : ∀ (i : Nat) (G H : Hp), i < ps.length → Same G0 G → Same G H → J.go i H
  yld : ∀ (i : Nat) (G H H' : Hp) (v : V) (p : PV), ps[i]? = some p → Same G0 G → Same G H → J.yld i H v H' → ∃ G', Grow G H G' H' ∧ Rep F G' p v
  stop : ∀ (G H : Hp), Same G0 G → Same G H → J.stop ps.length H
abbrev RY (F : Fx) : Hp → List PV → It → Prop := fun G ps J => Yields F J G ps
def tI (F : Fx) (io : Option Addr) (W : WX) (d : DD (List PV)) : TI := tD (RY F) F io W d
theorem _root_.L2.PI.imp {X : Cx} {tg iter : Expr} {t t' : TI} (h : PI X tg iter t) (i : ∀ σ H R, t' σ H R → t σ H R) : PI X tg iter t' := ⟨fun pins s σ H R I w => h.run pins s σ H R I (i σ H R w)⟩
def sFor (g : Tg) (di : DD (List PV)) (d : DS) : DS := fun ρ => (di ρ).toOut fun ps ρ => forL g d ps ρ
theorem st_for {iter tg : Expr} {t : TG} {g : Tg} {di : DD (List PV)} {d : DS} (hp : PassesOwn (model X.prog X.w) X.A X.env X.xe) (hc : X.calm = true) (hi : PI X tg iter (tI F io W di)) (hg : PG X tg t) (ht : TgOk F io t g) (hb : PSs X body (tS F io W d))
    (hs : ∀ x, foldedSetIterable iter X.env x = pure x := by intro _; rfl) : PS X (.For tg iter body [] pos) (tS F io W (sFor g di d)) := by
  refine (ps_for hp hc hi hg hb hs).imp fun D σ H ⟨G0, Fr, ρ0, S0, q0⟩ => ?_
  refine tD.stepS (k := fun ps ρ => forL g d ps ρ) S0 q0 fun J H1 G1 ρ1 ps e1 S1 Y q1 => ?_
  refine ⟨fun i m σ H => m = ps.length - i ∧ i ≤ ps.length ∧ ∃ G ρ, Same G1 G ∧ StOk F io G Fr H σ ρ ∧ PostS F io W Fr G D (forL g d (ps.drop i) ρ), ⟨ps.length, by simp, Nat.zero_le _, G1, ρ1, Same.refl _, S1, q1⟩, ?_⟩
  rintro i m σ2 H2 ⟨rfl, hi, G2, ρ2, e2, S2, q2⟩
  by_cases hlt : i < ps.length
  · refine .inr ⟨Y.go i G2 H2 hlt e2 S2.sub, fun σ H => i + 1 ≤ ps.length ∧ ∃ G ρ, Same G1 G ∧ StOk F io G Fr H σ ρ ∧ PostS F io W Fr G D (forL g d (ps.drop (i + 1)) ρ), fun σ' H' h => ⟨ps.length - (i + 1), by omega, rfl, h.1, h.2⟩, fun x H' y => ?_⟩
    obtain ⟨G3, g3, r3⟩ := Y.yld i G2 H2 H' x ps[i] (by simp [hlt]) e2 S2.sub y
    have e3 := g3.gle
    have S3 := S2.grow g3
    rw [List.drop_eq_getElem_cons hlt] at q2
    have q2 : PostS F io W Fr G2 D (match g.set ps[i] ρ2 with
      | some ρ' => (d ρ').thn (forL g d (ps.drop (i + 1)))
      | none => .stuck) := q2
    cases eg : g.set ps[i] ρ2 with
    | none => rw [eg] at q2; exact q2.elim
    | some ρ3 =>
      rw [eg] at q2
      refine ht G3 Fr H' σ2 ρ2 ρ3 ps[i] x _ S3 r3 eg fun σ' S4 _ => ?_
      refine ⟨G3, Fr, ρ3, S4, ?_⟩
      have q2 : PostS F io W Fr G2 D ((d ρ3).thn (forL g d (ps.drop (i + 1)))) := q2
      cases ed : d ρ3 with
      | nx ρ5 =>
        rw [ed] at q2
        exact fun σ5 G5 H5 e5 S5 => ⟨hlt, G5, ρ5, (e2.trans e3).trans e5, S5, PostS.gle (e3.trans e5) q2⟩
      | rt p ρ5 => rw [ed] at q2; exact fun v σ5 G5 H5 e5 => q2 v σ5 G5 H5 (e3.trans e5)
      | exc c as ρ5 => rw [ed] at q2; exact fun v σ5 G5 H5 e5 => q2 v σ5 G5 H5 (e3.trans e5)
      | stuck => rw [ed] at q2; exact q2
  · have e : i = ps.length := by omega
    subst e
    refine .inl ⟨Y.stop G2 H2 e2 S2.sub, ?_⟩
    rw [List.drop_length] at q2
    exact PostS.next q2 S2
/-- the items of a list or tuple -/
def signsP (x : Str) : List PV := x.cps.toList.map fun c => .str ⟨#[c]⟩
def dItems (d : DE) : DD (List PV) := fun ρ => (d ρ).bind fun x ρ => match x with
  | .lst xs => .ok xs ρ
  | .tup xs => .ok xs ρ
  | .str x => .ok (signsP x) ρ
  | _ => .stuck
def dItL (d : DE) : DD (List PV) := fun ρ => (d ρ).bind fun x ρ => match x with
  | .lst xs => .ok xs ρ
  | _ => .stuck
def dItT (d : DE) : DD (List PV) := fun ρ => (d ρ).bind fun x ρ => match x with
  | .tup xs => .ok xs ρ
  | _ => .stuck
theorem yields_list {G0 : Hp} {a : Addr} {ps : List PV} {vs : List V} (h : G0 a = some (.lst vs)) (r : Reps F G0 ps vs) : Yields F (Itl F.K a) G0 ps where
  go := fun i G H hi e s => ⟨vs, vs[i]'(by rw [← r.length]; exact hi), .of (s _ _ (e _ _ h)), by simp⟩
  yld := fun i G H H' v p hp e s y => by
    obtain ⟨rfl, y⟩ := y
    obtain ⟨v', h1, h2⟩ := r.get hp
    have := y vs (.of (s _ _ (e _ _ h)))
    rw [h1] at this
    cases this
    exact ⟨G, Grow.refl s, h2.same e⟩
  stop := fun G H e s => ⟨vs, .of (s _ _ (e _ _ h)), by rw [r.length]; exact Nat.le_refl _⟩
theorem yields_tup {G0 : Hp} {a : Addr} {ps : List PV} {vs : List V} (h : SqT F.K G0 a vs) (r : Reps F G0 ps vs) : Yields F (Itt F.K a) G0 ps where
  go := fun i G H hi e s => ⟨vs, vs[i]'(by rw [← r.length]; exact hi), SqT.same (e.trans s) h, by simp⟩
  yld := fun i G H H' v p hp e s y => by
    obtain ⟨rfl, y⟩ := y
    obtain ⟨v', h1, h2⟩ := r.get hp
    have := y vs (SqT.same (e.trans s) h)
    rw [h1] at this
    cases this
    exact ⟨G, Grow.refl s, h2.same e⟩
  stop := fun G H e s => ⟨vs, SqT.same (e.trans s) h, by rw [r.length]; exact Nat.le_refl _⟩
theorem qi_list {tg : Expr} {d : DE} (hK : F.K = X.K) (h : PE X a (tE F io W d)) : PI X tg a (tI F io W (dItL d)) := by
  refine (pi_list h).imp fun σ H R ⟨G, Fr, ρ, S, q⟩ => ?_
  refine tD.step S q fun v H1 G1 ρ1 x e1 S1 r1 q1 => ?_
  cases r1 <;> first | exact q1.elim | skip
  case lst ps a vs h r => exact ⟨a, rfl, ⟨vs, .of (S1.sub _ _ h)⟩, q1 _ G1 H1 (Same.refl _) S1 (by rw [← hK]; exact yields_list h r)⟩
theorem qi_tup {tg : Expr} {d : DE} (hK : F.K = X.K) (h : PE X a (tE F io W d)) : PI X tg a (tI F io W (dItT d)) := by
  refine (pi_tup h).imp fun σ H R ⟨G, Fr, ρ, S, q⟩ => ?_
  refine tD.step S q fun v H1 G1 ρ1 x e1 S1 r1 q1 => ?_
  cases r1 <;> first | exact q1.elim | skip
  case tup ps a vs h r => exact ⟨a, rfl, ⟨vs, by rw [← hK]; exact SqT.same S1.sub h⟩, q1 _ G1 H1 (Same.refl _) S1 (by rw [← hK]; exact yields_tup h r)⟩
/-- range -/
def rangeL (lo hi : Int) : List PV := (List.range (hi - lo).toNat).map fun i => PV.int (lo + (i : Nat))
def dRange1 (d : DD (List PV)) : DD (List PV) := fun ρ => (d ρ).bind fun xs ρ => match xs with
  | [.int j] => if -(2 ^ 62) ≤ j ∧ j < 2 ^ 62 then .ok (rangeL 0 j) ρ else .stuck
  | _ => .stuck
def dRange2 (d : DD (List PV)) : DD (List PV) := fun ρ => (d ρ).bind fun xs ρ => match xs with
  | [.int i, .int j] => if -(2 ^ 62) ≤ i ∧ i < 2 ^ 62 ∧ -(2 ^ 62) ≤ j ∧ j < 2 ^ 62 then .ok (rangeL i j) ρ else .stuck
  | _ => .stuck
theorem rangeL_length (lo hi : Int) : (rangeL lo hi).length = (hi - lo).toNat := by simp [rangeL]
theorem rangeL_get {lo hi : Int} {i : Nat} {p : PV} (h : (rangeL lo hi)[i]? = some p) : p = .int (lo + i) := by
  unfold rangeL at h
  rw [List.getElem?_map] at h
  by_cases l : i < (hi - lo).toNat
  · rw [List.getElem?_range l] at h
    cases h
    rfl
  · rw [List.getElem?_eq_none (by simp; omega)] at h
    cases h
theorem yields_range {G0 : Hp} {lo hi : Int} : Yields F (Itr lo (hi - lo).toNat) G0 (rangeL lo hi) where
  go := fun i G H hi e s => by rw [rangeL_length] at hi; exact hi
  yld := fun i G H H' v p hp e s y => by
    obtain ⟨rfl, rfl⟩ := y
    rw [rangeL_get hp]
    exact ⟨G, Grow.refl s, .int _⟩
  stop := fun G H e s => by rw [rangeL_length]; exact Nat.le_refl _
theorem qi_range1 {tg : Expr} {d : DD (List PV)} {p : Pos} (hg : Gl X "range") (hm : X.mg "range" = none) (ha : PA X [a] (tA F io W d)) (hs : starEach [a] X.env = [(false, eval a X.env)] := by rfl) : PI X tg (.Call (.Name "range" p) [a] [] pos) (tI F io W (dRange1 d)) := by
  refine (pi_range1 hg hm ha hs).imp fun σ H R ⟨G, Fr, ρ, S, q⟩ => ?_
  refine tD.step S q fun vs H1 G1 ρ1 xs e1 S1 r1 q1 => ?_
  cases r1 with
  | nil => exact q1.elim
  | cons r rr =>
    cases rr with
    | cons => cases r <;> exact q1.elim
    | nil =>
      cases r <;> first | exact q1.elim | skip
      case int j =>
        have q1 : Post (RY F) F io W Fr G1 σ R (if -(2 ^ 62) ≤ j ∧ j < 2 ^ 62 then Res.ok (rangeL 0 j) ρ1 else .stuck) := q1
        by_cases l : -(2 ^ 62) ≤ j ∧ j < 2 ^ 62
        · rw [if_pos l] at q1
          have Y := yields_range (F := F) (G0 := G1) (lo := 0) (hi := j)
          rw [Int.sub_zero] at Y
          exact ⟨j, rfl, l.1, l.2, q1 _ G1 H1 (Same.refl _) S1 Y⟩
        · rw [if_neg l] at q1
          exact q1.elim
theorem qi_range2 {tg : Expr} {d : DD (List PV)} {p : Pos} (hg : Gl X "range") (hm : X.mg "range" = none) (ha : PA X [a, b] (tA F io W d)) (hs : starEach [a, b] X.env = [(false, eval a X.env), (false, eval b X.env)] := by rfl) (hs2 : starEach [b] X.env = [(false, eval b X.env)] := by rfl) :
    PI X tg (.Call (.Name "range" p) [a, b] [] pos) (tI F io W (dRange2 d)) := by
  refine (pi_range2 hg hm ha hs hs2).imp fun σ H R ⟨G, Fr, ρ, S, q⟩ => ?_
  refine tD.step S q fun vs H1 G1 ρ1 xs e1 S1 r1 q1 => ?_
  cases r1 with
  | nil => exact q1.elim
  | cons r rr =>
    cases rr with
    | nil => cases r <;> exact q1.elim
    | cons r2 rr =>
      cases rr with
      | cons => cases r <;> cases r2 <;> exact q1.elim
      | nil =>
        cases r <;> cases r2 <;> first | exact q1.elim | skip
        case int.int i j =>
          have q1 : Post (RY F) F io W Fr G1 σ R (if -(2 ^ 62) ≤ i ∧ i < 2 ^ 62 ∧ -(2 ^ 62) ≤ j ∧ j < 2 ^ 62 then Res.ok (rangeL i j) ρ1 else .stuck) := q1
          by_cases l : -(2 ^ 62) ≤ i ∧ i < 2 ^ 62 ∧ -(2 ^ 62) ≤ j ∧ j < 2 ^ 62
          · rw [if_pos l] at q1
            exact ⟨i, j, rfl, l, q1 _ G1 H1 (Same.refl _) S1 yields_range⟩
          · rw [if_neg l] at q1
            exact q1.elim
end

/-! ### a def's body -/
def runB (n : Nat) (d : DS) (ps : List PV) : FR := match d (ps.map (fun p => some (.val p)) ++ List.replicate (n - ps.length) none) with
  | .nx _ => .ok .non
  | .rt p _ => .ok p
  | .exc c as _ => .exc c as
  | .stuck => .stuck
theorem start_ok {F : Fx} {G H : Hp} {N : List Str} {ps : List PV} {vs : List V} (s : Same G H) (r : Reps F G ps vs) :
    StOk F none G (fun a => if (G a).isSome = true then none else H a) H (start N vs) (ps.map (fun p => some (.val p)) ++ List.replicate (N.length - ps.length) none) := by
  have no : ∀ (i : Nat) (sv : SV), (ps.map (fun p => some (SV.val p)) ++ List.replicate (N.length - ps.length) none)[i]? = some (some sv) → ∃ p, sv = .val p ∧ ps[i]? = some p := fun i sv e => by
    by_cases l : i < ps.length
    · rw [List.getElem?_append_left (by simpa using l), List.getElem?_map] at e
      cases q : ps[i]? with
      | none => rw [q] at e; cases e
      | some p => rw [q] at e; cases e; exact ⟨p, rfl, rfl⟩
    · rw [List.getElem?_append_right (by simpa using l), List.getElem?_replicate] at e
      split at e <;> cases e
  refine ⟨s, fun a o e => ?_, fun a o e => by simp [e], ?_, fun i p e => ?_, fun i c e => ?_, fun i j c d a e => ?_, fun a e => (by cases e), fun i c e => ?_, fun i j c d e => ?_⟩
  · have e : (if (G a).isSome = true then none else H a) = some o := e
    split at e
    · cases e
    · exact e
  · unfold L2.start
    simp [r.length]
  · obtain ⟨p', e1, e2⟩ := no i _ e
    cases e1
    obtain ⟨v, h1, h2⟩ := r.get e2
    refine ⟨v, ?_, h2⟩
    unfold L2.start
    rw [List.getElem?_append_left (by simpa using lt_of_slot (l := vs.map some) (i := i) (y := v) (by rw [List.getElem?_map, h1]; rfl)), List.getElem?_map, h1]
    rfl
  · obtain ⟨p', e1, e2⟩ := no i _ e; cases e1
  · obtain ⟨p', e1, e2⟩ := no i _ e; cases e1
  · obtain ⟨p', e1, e2⟩ := no i _ e; cases e1
  · obtain ⟨p', e1, e2⟩ := no i _ e; cases e1
theorem end_grow {F : Fx} {io : Option Addr} {G H G' H' : Hp} {σ : L2.St} {ρ : Rho} (s : Same G H) (e : Same G G') (S : StOk F io G' (fun a => if (G a).isSome = true then none else H a) H' σ ρ) : Grow G H G' H' := by
  have dis : ∀ a o, G' a = some o → (if (G a).isSome = true then none else H a) = none := S.dis
  have fsub : ∀ a o, (if (G a).isSome = true then none else H a) = some o → H' a = some o := S.fsub
  refine ⟨fun a o h => ?_, e, S.sub, fun a o h h0 => ?_⟩
  · cases q : G a with
    | none => exact fsub a o (by simp [q, h])
    | some u =>
      have h1 := s a u q
      rw [h] at h1
      cases h1
      exact S.sub a _ (e a _ q)
  · have h1 := dis a o h
    rw [if_neg (by simp [h0])] at h1
    exact h1
/-- THE RULE of a def that changes nothing: what its body means -/
theorem fn_pure {P : Program} {w : World} {K : PySem.W.Frag} {mg : Str → Option Value} {base : Heap} {x qual : Str} {params : Arguments} {body : List Stmt} {scope : Scope} {f : Addr} {fd : FuncData} {N ps : List Str} {k : Nat} {F : Fx} {d : DS}
    (FD : FunD K x qual params body scope [] [] f fd) (S : FnScope N ps scope)
    (h : ∀ (cdv : Value) (A : Around) (outer : List Env) (s : Shared) (H : Hp) (E : XK), RoomG k (A.deeper (envOfC qual scope s.heap.objs.size f cdv)) →
      PSs (cxOf (L2.CX P w) P w K mg base N qual scope f cdv A outer s H E) body (tS F none (fun cls d _ H => E cls d H) d)) :
    FnG P w K mg base (L2.CX P w) (k + 1) f fd ps (spP F ps.length (runB N.length d)) := by
  refine fun_g FD S (fun vs H Q E q => q.1) fun cdv A outer s H vs Q E hr q => ⟨_, h cdv A outer s H E hr, ?_⟩
  obtain ⟨hl, G, qs, sub, r, q⟩ := q
  refine ⟨G, _, _, start_ok sub r, ?_⟩
  unfold runB at q
  cases ed : d (qs.map (fun p => some (.val p)) ++ List.replicate (N.length - qs.length) none) with
  | nx ρ =>
    rw [ed] at q
    exact fun σ' G' H' e S' => q .non G' H' (end_grow sub e S') .non
  | rt p ρ =>
    rw [ed] at q
    exact fun v σ' G' H' e S' r' => q v G' H' (end_grow sub e S') r'
  | exc c as ρ =>
    rw [ed] at q
    exact fun dd σ' G' H' e S' x' => q dd G' H' (end_grow sub e S') x'
  | stuck => rw [ed] at q; exact q
end Pl

set_option maxHeartbeats 4000000
/-! P4: list comprehensions, built-in functions, errors raised, the module's names. -/
namespace Pl
open PySem PySem.Spec PyProof.Rows L2

/-! ### comprehensions -/
def valsOf (ρ : Rho) : Rho := ρ.map fun x => match x with
  | some (.val p) => some (.val p)
  | _ => none
def wipeR (ρ : Rho) : List Nat → Rho
  | [] => ρ
  | v :: vs => (wipeR ρ vs).set v none
def compL (g : Tg) (t : DD Bool) (d : DE) (ρ : Rho) : List PV → Option (List PV)
  | [] => some []
  | p :: ps => match g.set p ρ with
    | none => none
    | some ρ1 => match t ρ1 with
      | .ok true ρ2 => (match d ρ2 with
        | .ok y _ => (compL g t d ρ ps).map (y :: ·)
        | _ => none)
      | .ok false _ => compL g t d ρ ps
      | _ => none
def dComp (vs : List Nat) (g : Tg) (di : DD (List PV)) (t : DD Bool) (d : DE) : DE := fun ρ => (di ρ).bind fun ps ρ => match compL g t d (wipeR (valsOf ρ) vs) ps with
  | some ys => if ps.length ≤ LIM then .ok (.lst ys) ρ else .stuck
  | none => .stuck
abbrev W0 : WX := fun _ _ _ _ => False
section
variable {F : Fx} {io : Option Addr} {W : WX} {Fr G G' H H' : Hp} {σ : L2.St} {ρ : Rho}
/-- what is tracked and does not stand still -/
def rest' (G H : Hp) : Hp := fun a => if (G a).isSome = true then none else H a
theorem vals_slot {i : Nat} {sv : SV} (e : (valsOf ρ)[i]? = some (some sv)) : ∃ p, sv = .val p ∧ ρ[i]? = some (some (.val p)) := by
  unfold valsOf at e
  rw [List.getElem?_map] at e
  cases q : ρ[i]? with
  | none => rw [q] at e; cases e
  | some o =>
    rw [q] at e
    cases o with
    | none => cases e
    | some s =>
      cases s with
      | val p => cases e; exact ⟨p, rfl, rfl⟩
      | own p => cases e
      | inp p => cases e
theorem StOk.vals (S : StOk F io G Fr H σ ρ) : StOk F none G (rest' G H) H σ (valsOf ρ) := by
  refine ⟨S.sub, fun a o e => ?_, fun a o e => by simp [rest', e], by simpa [valsOf] using S.len, fun i p e => ?_, fun i c e => ?_, fun i j c d a e => ?_, fun a e => (by cases e), fun i c e => ?_, fun i j c d e => ?_⟩
  · have e : (if (G a).isSome = true then none else H a) = some o := e
    split at e
    · cases e
    · exact e
  · obtain ⟨q, h1, h2⟩ := vals_slot e
    cases h1
    exact S.val i p h2
  · obtain ⟨q, h1, h2⟩ := vals_slot e; cases h1
  · obtain ⟨q, h1, h2⟩ := vals_slot e; cases h1
  · obtain ⟨q, h1, h2⟩ := vals_slot e; cases h1
  · obtain ⟨q, h1, h2⟩ := vals_slot e; cases h1
theorem StOk.wipes (S : StOk F io G Fr H σ ρ) : ∀ vs : List Nat, StOk F io G Fr H (wipe σ vs) (wipeR ρ vs)
  | [] => S
  | v :: vs => (StOk.wipes S vs).wipe1
theorem rest_grow (s : Same G H) (e : Same G G') (S : StOk F io G' (rest' G H) H' σ ρ) : Grow G H G' H' := end_grow s e S
theorem wipe_wipe (vs : List Nat) (σ : L2.St) : ∀ us : List Nat, (∀ i ∈ us, i ∈ vs) → wipe (wipe σ us) vs = wipe σ vs
  | [], _ => rfl
  | u :: us, h => by
    show wipe ((wipe σ us).set u none) vs = wipe σ vs
    rw [wipe_set (h u List.mem_cons_self)]
    exact wipe_wipe vs σ us fun i hi => h i (List.mem_cons_of_mem _ hi)
/-- an object that nobody names is changed -/
theorem StOk.upd_at {a : Addr} {o : HO} (S : StOk F io G Fr H σ ρ) (nG : G a = none) (nF : Fr a = none) (nI : io ≠ some a) (no : ∀ (j : Nat) (d : PV), ρ[j]? = some (some (SV.own d)) → σ[j]? ≠ some (some (V.ref a))) : StOk F io G Fr (upd H a o) σ ρ := by
  have k : ∀ b u, b ≠ a → H b = some u → upd H a o b = some u := fun b u n h => by rw [upd_ne n]; exact h
  refine ⟨fun b u h => k b u (ne_of_none h nG) (S.sub b u h), fun b u h => k b u (ne_of_none h nF) (S.fsub b u h), S.dis, S.len, S.val, fun i c e => ?_, S.sep, fun b e => ?_, fun i c e => ?_, S.one⟩
  · obtain ⟨b, h1, h2, h3, h4, h5⟩ := S.own i c e
    refine ⟨b, h1, h2, h3, h4.same (Same.refl _) fun u hu => k b u (fun z => ?_) hu, h5⟩
    subst z
    exact no i c e h1
  · obtain ⟨h1, h2, u, h3⟩ := S.iot b e
    exact ⟨h1, h2, u, k b u (fun z => nI (by rw [← z]; exact e)) h3⟩
  · obtain ⟨b, h1, h2, h3⟩ := S.inp i c e
    exact ⟨b, h1, h2, h3.same (Same.refl _) fun u hu => k b u (fun z => nI (by rw [← z]; exact h1)) hu⟩
theorem compL_len {g : Tg} {t : DD Bool} {d : DE} {ρ : Rho} : ∀ {ps ys : List PV}, compL g t d ρ ps = some ys → ys.length ≤ ps.length
  | [], ys, h => by cases h; exact Nat.le_refl _
  | p :: ps, ys, h => by
    unfold compL at h
    cases e : g.set p ρ with
    | none => rw [e] at h; cases h
    | some ρ1 =>
      rw [e] at h
      dsimp only at h
      split at h
      · split at h
        · rename_i y _ _
          cases e2 : compL g t d ρ ps with
          | none => rw [e2] at h; cases h
          | some zs =>
            rw [e2] at h
            cases h
            exact Nat.succ_le_succ (compL_len e2)
        · cases h
      · exact Nat.le_succ_of_le (compL_len h)
      · cases h
end
section
variable {X : Cx} {F : Fx} {io : Option Addr} {W : WX}
theorem comp_step {wi : TI} {tg : TG} {g : Tg} {di : DD (List PV)} {t : DD Bool} {d : DE} {vs : List Nat} {σ : L2.St} {H : Hp} {Q : VK} (hw : ∀ σ H R, tI F io W di σ H R → wi σ H R) (ht : TgOk F none tg g) (hv : ∀ i ∈ g.slots, i ∈ vs)
    (h : tE F io W (dComp vs g di t d) σ H Q) : tLc wi tg (tT F none W0 t) (tE F none W0 d) vs σ H Q := by
  obtain ⟨G0, Fr, ρ0, S0, q0⟩ := h
  refine hw σ H _ (tD.step S0 q0 fun J H1 G1 ρ1 ps e1 S1 Y q1 => ?_)
  intro D nD
  have q1 : Post (Rep F) F io W Fr G1 σ Q (match compL g t d (wipeR (valsOf ρ1) vs) ps with
    | some ys => if ps.length ≤ LIM then .ok (.lst ys) ρ1 else .stuck
    | none => .stuck) := q1
  cases ec : compL g t d (wipeR (valsOf ρ1) vs) ps with
  | none => rw [ec] at q1; exact q1.elim
  | some ys =>
    rw [ec] at q1
    have q1 : Post (Rep F) F io W Fr G1 σ Q (if ps.length ≤ LIM then .ok (.lst ys) ρ1 else .stuck) := q1
    by_cases hl : ps.length ≤ LIM
    · rw [if_pos hl] at q1
      have nF : Fr D = none := S1.fsub.free nD
      have nI : io ≠ some D := fun e => by
        obtain ⟨_, _, o, h⟩ := S1.iot D e
        rw [nD] at h
        cases h
      have no : ∀ (j : Nat) (c : PV), ρ1[j]? = some (some (SV.own c)) → σ[j]? ≠ some (some (V.ref D)) := fun j c e h => by
        obtain ⟨b, h1, _, _, h4, _⟩ := S1.own j c e
        rw [h] at h1
        cases h1
        obtain ⟨u, hu⟩ := h4.there
        rw [nD] at hu
        cases hu
      refine ⟨fun i m H => m = ps.length - i ∧ i ≤ ps.length ∧ ∃ G zs acc, Same G1 G ∧ StOk F io G Fr H σ ρ1 ∧ G D = none ∧ H D = some (.lst acc) ∧ Reps F G zs acc ∧ zs.length ≤ i ∧ (compL g t d (wipeR (valsOf ρ1) vs) (ps.drop i)).map (zs ++ ·) = some ys, ?_, ?_⟩
      · refine ⟨ps.length, by simp, Nat.zero_le _, G1, [], [], Same.refl _, S1.upd_at (S1.sub.free nD) nF nI no, S1.sub.free nD, upd_same, .nil, Nat.zero_le _, ?_⟩
        show (compL g t d (wipeR (valsOf ρ1) vs) ps).map _ = _
        rw [ec]
        rfl
      · rintro i m H2 ⟨rfl, hi, G2, zs, acc, e2, S2, nG, hD, ra, hz, em⟩
        by_cases hlt : i < ps.length
        · rw [List.drop_eq_getElem_cons hlt] at em
          refine .inr ⟨Y.go i G2 H2 hlt e2 S2.sub, fun H => i + 1 ≤ ps.length ∧ ∃ G zs acc, Same G1 G ∧ StOk F io G Fr H σ ρ1 ∧ G D = none ∧ H D = some (.lst acc) ∧ Reps F G zs acc ∧ zs.length ≤ i + 1 ∧ (compL g t d (wipeR (valsOf ρ1) vs) (ps.drop (i + 1))).map (zs ++ ·) = some ys, fun H' h => ⟨ps.length - (i + 1), by omega, rfl, h.1, h.2⟩, fun x H3 y => ?_⟩
          obtain ⟨G3, g3, r3⟩ := Y.yld i G2 H2 H3 x ps[i] (by simp [hlt]) e2 S2.sub y
          have S3 := S2.grow g3
          have nG3 : G3 D = none := g3.stays0 nG ⟨_, hD⟩
          have hD3 : H3 D = some (.lst acc) := g3.all _ _ hD
          unfold compL at em
          cases eg : g.set ps[i] (wipeR (valsOf ρ1) vs) with
          | none => rw [eg] at em; cases em
          | some ρ4 =>
            rw [eg] at em
            refine ht G3 _ H3 _ _ ρ4 ps[i] x _ (S3.vals.wipes vs) r3 eg fun σ4 S4 w4 => ⟨?_, ?_⟩
            · rw [w4 vs hv, wipe_wipe vs σ vs fun _ h => h]
            · refine ⟨G3, _, ρ4, S4, ?_⟩
              dsimp only at em
              cases et : t ρ4 with
              | exc c as ρ5 => rw [et] at em; cases em
              | stuck => rw [et] at em; cases em
              | ok k ρ5 =>
                rw [et] at em
                intro b G5 H5 e5 S5 rb
                have rb : k = b := rb
                subst rb
                have g5 := rest_grow S3.sub e5 S5
                have S6 := S3.grow g5
                have nG5 := g5.stays0 nG3 ⟨_, hD3⟩
                have hD5 := g5.all _ _ hD3
                cases k with
                | false =>
                  rw [if_neg Bool.false_ne_true]
                  exact ⟨hlt, G5, zs, acc, (e2.trans g3.gle).trans g5.gle, S6, nG5, hD5, (ra.same g3.gle).same g5.gle, Nat.le_succ_of_le hz, em⟩
                | true =>
                  rw [if_pos rfl]
                  refine ⟨G5, _, ρ5, S5, ?_⟩
                  dsimp only at em
                  cases ed : d ρ5 with
                  | exc c as ρ6 => rw [ed] at em; cases em
                  | stuck => rw [ed] at em; cases em
                  | ok z ρ6 =>
                    rw [ed] at em
                    intro u G7 H7 e7 S7 r7
                    have g7 : Grow G3 H3 G7 H7 := rest_grow S3.sub (e5.trans e7) S7
                    have nG7 := g7.stays0 nG3 ⟨_, hD3⟩
                    have hD7 := g7.all _ _ hD3
                    refine ⟨acc, hD7, ?_, hlt, G7, zs ++ [z], acc ++ [u], (e2.trans g3.gle).trans g7.gle, (S3.grow g7).upd_at nG7 nF nI no, nG7, upd_same, ((ra.same g3.gle).same g7.gle).append (.cons r7 .nil), ?_, ?_⟩
                    · rw [← ra.length]
                      have : LIM < sizeLine := by decide
                      omega
                    · rw [List.length_append]
                      exact Nat.succ_le_succ hz
                    · rw [← em]
                      cases compL g t d (wipeR (valsOf ρ1) vs) (ps.drop (i + 1)) with
                      | none => rfl
                      | some l => simp
        · have e : i = ps.length := by omega
          subst e
          refine .inl ⟨Y.stop G2 H2 e2 S2.sub, ?_⟩
          rw [List.drop_length] at em
          have em : some (zs ++ []) = some ys := em
          rw [List.append_nil] at em
          cases em
          -- the list stands still from now on
          have sD : Same G2 (upd G2 D (.lst acc)) := same_upd nG
          refine q1 (.ref D) (upd G2 D (.lst acc)) H2 (e2.trans sD) ?_ (.lst upd_same (ra.same sD))
          have g : StOk F io (upd G2 D (.lst acc)) Fr H2 σ ρ1 := by
            refine ⟨fun b o h => ?_, S2.fsub, fun b o h => ?_, S2.len, fun j p e => ?_, fun j c e => ?_, S2.sep, fun b e => ?_, fun j c e => ?_, S2.one⟩
            · by_cases z : b = D
              · subst z
                rw [upd_same] at h
                cases h
                exact hD
              · rw [upd_ne z] at h
                exact S2.sub b o h
            · by_cases z : b = D
              · subst z
                exact nF
              · rw [upd_ne z] at h
                exact S2.dis b o h
            · obtain ⟨v, h1, h2⟩ := S2.val j p e
              exact ⟨v, h1, h2.same sD⟩
            · obtain ⟨b, h1, h2, h3, h4, h5⟩ := S2.own j c e
              refine ⟨b, h1, ?_, h3, h4.same sD fun o h => h, h5⟩
              rw [upd_ne (fun z => no j c e (by rw [← z]; exact h1))]
              exact h2
            · obtain ⟨h1, h2, h3⟩ := S2.iot b e
              refine ⟨?_, h2, h3⟩
              rw [upd_ne (fun z => nI (by rw [← z]; exact e))]
              exact h1
            · obtain ⟨b, h1, h2, h3⟩ := S2.inp j c e
              exact ⟨b, h1, h2, h3.same sD fun o h => h⟩
          exact g
    · rw [if_neg hl] at q1
      exact q1.elim
theorem pp_comp {elt tg iter : Expr} {ifs : List Expr} {scope : Scope} {own : List (Str × Nat)} {pos : Pos} {tt : TG} {g : Tg} {di : DD (List PV)} {t : DD Bool} {d : DE} (hc : X.calm = true) (hN : X.N.Nodup) (hi : PI X tg iter (tI F io W di)) (ok : BlkOk X.N X.env.scope scope own)
    (ht : TgOk F none tt g) (hv : (g.slots.all fun i => (own.map (·.2)).contains i) = true)
    (hg : ∀ (s : Shared) (H : Hp) (C : Addr) (cl : List (Str × Addr)) (fp : List Addr), PG (X.blk s H scope (compEnvC scope cl C X.env) fp) tg tt)
    (hts : ∀ (s : Shared) (H : Hp) (C : Addr) (cl : List (Str × Addr)) (fp : List Addr), PTs (X.blk s H scope (compEnvC scope cl C X.env) fp) ifs (tT F none W0 t))
    (he : ∀ (s : Shared) (H : Hp) (C : Addr) (cl : List (Str × Addr)) (fp : List Addr), PE (X.blk s H scope (compEnvC scope cl C X.env) fp) elt (tE F none W0 d)) (hs : ∀ x, foldedSetIterable iter X.env x = pure x := by intro _; rfl) :
    PE X (.ListComp elt [⟨tg, iter, ifs, 0⟩] scope pos) (tE F io W (dComp (own.map (·.2)) g di t d)) :=
  (pe_lc hc hN hi ok hg hts he hs).imp fun σ H Q h => comp_step (fun _ _ _ z => z) ht (fun i m => by simpa using List.all_eq_true.mp hv i m) h
theorem st_setComp {i : Nat} {y : Str} {py : Pos} {elt tg iter : Expr} {ifs : List Expr} {scope : Scope} {own : List (Str × Nat)} {pos spos : Pos} {tt : TG} {g : Tg} {di : DD (List PV)} {t : DD Bool} {d : DE} (hc : X.calm = true) (hN : X.N.Nodup) (hy : X.N[i]? = some y) (hyl : X.env.scope.names.lookup y = some .local)
    (hsw : swapsWith (.ListComp elt [⟨tg, iter, ifs, 0⟩] scope pos) (some (.Name y py)) spos.line X.env = pure true) (hi : PI X tg iter (tI F io W di)) (ok : BlkOk X.N X.env.scope scope own) (ht : TgOk F none tt g) (hv : (g.slots.all fun i => (own.map (·.2)).contains i) = true)
    (hg : ∀ (s : Shared) (H : Hp) (C : Addr) (cl : List (Str × Addr)) (fp : List Addr), PG (X.blk s H scope (compEnvC scope cl C X.env) fp) tg tt)
    (hts : ∀ (s : Shared) (H : Hp) (C : Addr) (cl : List (Str × Addr)) (fp : List Addr), PTs (X.blk s H scope (compEnvC scope cl C X.env) fp) ifs (tT F none W0 t))
    (he : ∀ (s : Shared) (H : Hp) (C : Addr) (cl : List (Str × Addr)) (fp : List Addr), PE (X.blk s H scope (compEnvC scope cl C X.env) fp) elt (tE F none W0 d)) (hs : ∀ x, foldedSetIterable iter X.env x = pure x := by intro _; rfl) :
    PS X (.Assign [.Name y py] (.ListComp elt [⟨tg, iter, ifs, 0⟩] scope pos) spos) (tS F io W (sSet i (dComp (own.map (·.2)) g di t d))) :=
  (ps_setLc hc hN hy hyl hsw hi ok hg hts he hs).imp fun D σ H h => by
    have h2 := asg_step h
    exact comp_step (F := F) (io := io) (W := W) (fun _ _ _ z => z) ht (fun i m => by simpa using List.all_eq_true.mp hv i m) h2
def tyesD : DD Bool := fun ρ => .ok true ρ
theorem qts_nil : PTs X [] (tT F io W tyesD) := ⟨fun pins s σ H Q I ⟨G, Fr, ρ, S, q⟩ => pts_nil.run pins s σ H Q I (q.done S rfl)⟩
theorem qts_one {c : Expr} {t : DD Bool} (h : PT X c (tT F io W t)) : PTs X [c] (tT F io W t) := pts_one h

/-! ### built-in functions by name -/
def CalOk (F : Fx) (r : List V → Hp → VK → Prop) (f : List PV → Option PV) : Prop := ∀ (G H : Hp) (vs : List V) (xs : List PV) (z : PV) (Q : VK), Same G H → Reps F G xs vs → f xs = some z → (∀ v' G' H', Grow G H G' H' → Rep F G' z v' → Q v' H') → r vs H Q
def dFun (f : List PV → Option PV) (d : DD (List PV)) : DE := fun ρ => (d ρ).bind fun xs ρ => ofO (f xs) ρ
theorem fun_step {r : List V → Hp → VK → Prop} {f : List PV → Option PV} {d : DD (List PV)} {σ : L2.St} {H : Hp} {Q : VK} (hf : CalOk F r f) (h : tE F io W (dFun f d) σ H Q) : tCB r (tA F io W d) σ H Q := by
  obtain ⟨G, Fr, ρ, S, q⟩ := h
  refine tD.step S q fun vs H1 G1 ρ1 xs e1 S1 r1 q1 => ?_
  obtain ⟨z, hz, k⟩ := Post.ofO (γ := Unit) q1 S1
  exact hf G1 H1 vs xs z Q S1.sub r1 hz k
variable {x : Str} {p pos : Pos} {a b c e : Expr} {es : List Expr} {bid T : String} {r : List V → Hp → VK → Prop}
theorem pp_fun {f : List PV → Option PV} {d : DD (List PV)} (hc : CallR X (.builtin bid) r) (hf : CalOk F r f) (hm : X.mg x = none) (hv : bootBuiltins x = some (.builtin bid)) (hg : Gl X x) (ha : PA X (e :: es) (tA F io W d)) (hn : x ≠ "__name__" := by decide) (hdb : (x == ("__debug__" : Str)) = false := by decide)
    (h1 : starEach (e :: es) X.env = (false, eval e X.env) :: starEach es X.env := by rfl) (h2 : (backTo pos (starEach es X.env)).any (·.1) = false := by rfl) : PE X (.Call (.Name x p) (e :: es) [] pos) (tE F io W (dFun f d)) :=
  (pe_callB hc hg hm hv ha hn hdb h1 h2).imp fun σ H Q h => fun_step hf h
theorem pp_ty {f : List PV → Option PV} {d : DD (List PV)} (hc : CallR X (.type T) r) (hf : CalOk F r f) (hm : X.mg x = none) (hv : bootBuiltins x = some (.type T)) (hg : Gl X x) (ha : PA X (e :: es) (tA F io W d)) (hn : x ≠ "__name__" := by decide) (hdb : (x == ("__debug__" : Str)) = false := by decide)
    (h1 : starEach (e :: es) X.env = (false, eval e X.env) :: starEach es X.env := by rfl) (h2 : (backTo pos (starEach es X.env)).any (·.1) = false := by rfl) : PE X (.Call (.Name x p) (e :: es) [] pos) (tE F io W (dFun f d)) :=
  (pe_callTy hc hg hm hv ha hn hdb h1 h2).imp fun σ H Q h => fun_step hf h
def fLen : List PV → Option PV
  | [.lst xs] => some (.int xs.length)
  | [.tup xs] => some (.int xs.length)
  | [.scr ns] => some (.int ns.length)
  | [.str x] => if x.length ≤ LIM then some (.int x.length) else none
  | _ => none
def rLenA (K : PySem.W.Frag) : List V → Hp → VK → Prop := fun xs H Q => (∃ p ys, xs = [.ref p] ∧ (SqL K H p ys ∨ SqT K H p ys) ∧ Q (.int ys.length) H) ∨ (∃ x n, xs = [x] ∧ LenV K x H n ∧ Q (.int n) H)
theorem call_lenA : CallR X (.builtin "len") (rLenA X.K) := fun pins s σ H xs us Q I rx h => by
  rcases h with h | h
  · exact call_len_seq pins s σ H xs us Q I rx h
  · exact call_len pins s σ H xs us Q I rx h
theorem reps1 {G : Hp} {p : PV} {vs : List V} (r : Reps F G [p] vs) : ∃ v, vs = [v] ∧ Rep F G p v := by
  cases r with
  | cons h r => cases r; exact ⟨_, rfl, h⟩
theorem reps2 {G : Hp} {p q : PV} {vs : List V} (r : Reps F G [p, q] vs) : ∃ v u, vs = [v, u] ∧ Rep F G p v ∧ Rep F G q u := by
  cases r with
  | cons h r =>
    obtain ⟨u, rfl, h2⟩ := reps1 r
    exact ⟨_, _, rfl, h, h2⟩
theorem f_len (hK : F.K = X.K) : CalOk F (rLenA X.K) fLen := by
  intro G H vs xs z Q s rx e k
  unfold fLen at e
  split at e
  · obtain ⟨v, rfl, h⟩ := reps1 rx
    cases e
    cases h with
    | lst h r => exact .inl ⟨_, _, rfl, .inl (.of (s _ _ h)), by rw [← r.length]; exact k _ G H (Grow.refl s) (.int _)⟩
  · obtain ⟨v, rfl, h⟩ := reps1 rx
    cases e
    cases h with
    | tup h r => exact .inl ⟨_, _, rfl, .inr (by rw [← hK]; exact SqT.same s h), by rw [← r.length]; exact k _ G H (Grow.refl s) (.int _)⟩
  · obtain ⟨v, rfl, h⟩ := reps1 rx
    cases e
    cases h with
    | scr h => exact .inl ⟨_, _, rfl, .inl (by rw [← hK]; exact Same.seq s h), by rw [List.length_map]; exact k _ G H (Grow.refl s) (.int _)⟩
  · obtain ⟨v, rfl, h⟩ := reps1 rx
    obtain ⟨l, rfl⟩ := ite_some e
    cases h
    exact .inr ⟨_, _, rfl, ⟨lim_line l, rfl⟩, k _ G H (Grow.refl s) (.int _)⟩
  · cases e
def allBl : List PV → Option (List Bool)
  | [] => some []
  | .bl b :: ps => (allBl ps).map (b :: ·)
  | _ => none
def allInt : List PV → Option (List Int)
  | [] => some []
  | .int b :: ps => (allInt ps).map (b :: ·)
  | _ => none
theorem bls_of {G : Hp} : ∀ {ps : List PV} {vs : List V} {bs : List Bool}, Reps F G ps vs → allBl ps = some bs → vs = bs.map V.bl
  | _, _, _, .nil, e => by cases e; rfl
  | p :: ps, _, bs, .cons h r, e => by
    cases h <;> first | (exfalso; cases e; done) | skip
    case bl b =>
      unfold allBl at e
      cases q : allBl ps with
      | none => rw [q] at e; cases e
      | some l => rw [q] at e; cases e; rw [bls_of r q]; rfl
theorem ints_of {G : Hp} : ∀ {ps : List PV} {vs : List V} {bs : List Int}, Reps F G ps vs → allInt ps = some bs → vs = bs.map V.int
  | _, _, _, .nil, e => by cases e; rfl
  | p :: ps, _, bs, .cons h r, e => by
    cases h <;> first | (exfalso; cases e; done) | skip
    case int b =>
      unfold allInt at e
      cases q : allInt ps with
      | none => rw [q] at e; cases e
      | some l => rw [q] at e; cases e; rw [ints_of r q]; rfl
def fAll : List PV → Option PV
  | [.lst xs] => (allBl xs).map fun bs => .bl (bs.all id)
  | _ => none
def fAny : List PV → Option PV
  | [.lst xs] => (allBl xs).map fun bs => .bl (bs.any id)
  | _ => none
def fSum : List PV → Option PV
  | [.lst xs] => (allInt xs).map fun bs => .int bs.sum
  | _ => none
theorem f_all : CalOk F (rAll X.K) fAll := by
  intro G H vs xs z Q s rx e k
  unfold fAll at e
  split at e
  · obtain ⟨v, rfl, h⟩ := reps1 rx
    rename_i xs
    cases q : allBl xs with
    | none => rw [q] at e; cases e
    | some bs =>
      rw [q] at e
      cases e
      cases h with
      | lst h r => exact ⟨_, bs, rfl, .of (by rw [← bls_of r q]; exact s _ _ h), k _ G H (Grow.refl s) (.bl _)⟩
  · cases e
theorem f_any : CalOk F (rAny X.K) fAny := by
  intro G H vs xs z Q s rx e k
  unfold fAny at e
  split at e
  · obtain ⟨v, rfl, h⟩ := reps1 rx
    rename_i xs
    cases q : allBl xs with
    | none => rw [q] at e; cases e
    | some bs =>
      rw [q] at e
      cases e
      cases h with
      | lst h r => exact ⟨_, bs, rfl, .of (by rw [← bls_of r q]; exact s _ _ h), k _ G H (Grow.refl s) (.bl _)⟩
  · cases e
theorem f_sum : CalOk F (rSum X.K) fSum := by
  intro G H vs xs z Q s rx e k
  unfold fSum at e
  split at e
  · obtain ⟨v, rfl, h⟩ := reps1 rx
    rename_i xs
    cases q : allInt xs with
    | none => rw [q] at e; cases e
    | some bs =>
      rw [q] at e
      cases e
      cases h with
      | lst h r => exact ⟨_, bs, rfl, .of (by rw [← ints_of r q]; exact s _ _ h), k _ G H (Grow.refl s) (.int _)⟩
  · cases e
def fAbs : List PV → Option PV
  | [.int i] => some (.int (if i < 0 then -i else i))
  | _ => none
theorem f_abs : CalOk F (fun xs H Q => ∃ i, xs = [.int i] ∧ Q (.int (if i < 0 then -i else i)) H) fAbs := by
  intro G H vs xs z Q s rx e k
  unfold fAbs at e
  split at e
  · obtain ⟨v, rfl, h⟩ := reps1 rx
    cases e
    cases h
    exact ⟨_, rfl, k _ G H (Grow.refl s) (.int _)⟩
  · cases e
def fMax2 : List PV → Option PV
  | [.int i, .int j] => some (.int (if j > i then j else i))
  | _ => none
theorem f_max2 : CalOk F (fun xs H Q => ∃ i j, xs = [.int i, .int j] ∧ Q (.int (if j > i then j else i)) H) fMax2 := by
  intro G H vs xs z Q s rx e k
  unfold fMax2 at e
  split at e
  · obtain ⟨v, u, rfl, h, h2⟩ := reps2 rx
    cases e
    cases h
    cases h2
    exact ⟨_, _, rfl, k _ G H (Grow.refl s) (.int _)⟩
  · cases e
def fMin2 : List PV → Option PV
  | [.int i, .int j] => some (.int (if j < i then j else i))
  | _ => none
theorem f_min2 : CalOk F (fun xs H Q => ∃ i j, xs = [.int i, .int j] ∧ Q (.int (if j < i then j else i)) H) fMin2 := by
  intro G H vs xs z Q s rx e k
  unfold fMin2 at e
  split at e
  · obtain ⟨v, u, rfl, h, h2⟩ := reps2 rx
    cases e
    cases h
    cases h2
    exact ⟨_, _, rfl, k _ G H (Grow.refl s) (.int _)⟩
  · cases e
def fInt : List PV → Option PV
  | [.int i] => some (.int i)
  | [.bl k] => some (.int (if k then 1 else 0))
  | _ => none
theorem f_int : CalOk F (fun xs H Q => (∃ i, xs = [.int i] ∧ Q (.int i) H) ∨ ∃ k, xs = [.bl k] ∧ Q (.int (if k then 1 else 0)) H) fInt := by
  intro G H vs xs z Q s rx e k
  unfold fInt at e
  split at e
  · obtain ⟨v, rfl, h⟩ := reps1 rx
    cases e
    cases h
    exact .inl ⟨_, rfl, k _ G H (Grow.refl s) (.int _)⟩
  · obtain ⟨v, rfl, h⟩ := reps1 rx
    cases e
    cases h
    exact .inr ⟨_, rfl, k _ G H (Grow.refl s) (.int _)⟩
  · cases e
def fTuple : List PV → Option PV
  | [.lst xs] => some (.tup xs)
  | [.tup xs] => some (.tup xs)
  | _ => none
def fList : List PV → Option PV
  | [.scr ns] => some (.lst (ns.map PV.int))
  | [.lst xs] => some (.lst xs)
  | [.tup xs] => some (.lst xs)
  | _ => none
theorem f_tuple (hK : F.K = X.K) : CalOk F (fun xs H Q => ∃ p ys, xs = [.ref p] ∧ ((SqL X.K H p ys ∧ ∀ l, H l = none → Q (.ref l) (upd H l (.tup ys))) ∨ (SqT X.K H p ys ∧ Q (.ref p) H))) fTuple := by
  intro G H vs xs z Q s rx e k
  unfold fTuple at e
  split at e
  · obtain ⟨v, rfl, h⟩ := reps1 rx
    cases e
    cases h with
    | lst h r => exact ⟨_, _, rfl, .inl ⟨.of (s _ _ h), fun l n => k _ _ _ (Grow.new1 s n) (.tup (.inl (.inl upd_same)) (r.same (same_upd (s.free n))))⟩⟩
  · obtain ⟨v, rfl, h⟩ := reps1 rx
    cases e
    cases h with
    | tup h r => exact ⟨_, _, rfl, .inr ⟨by rw [← hK]; exact SqT.same s h, k _ G H (Grow.refl s) (.tup h r)⟩⟩
  · cases e
theorem reps_ints {G : Hp} : ∀ ns : List Int, Reps F G (ns.map PV.int) (ns.map V.int)
  | [] => .nil
  | n :: ns => .cons (.int n) (reps_ints ns)
theorem f_list (hK : F.K = X.K) : CalOk F (fun xs H Q => ∃ p ys, xs = [.ref p] ∧ (SqL X.K H p ys ∨ SqT X.K H p ys) ∧ ∀ l, H l = none → Q (.ref l) (upd H l (.lst ys))) fList := by
  intro G H vs xs z Q s rx e k
  unfold fList at e
  split at e
  · obtain ⟨v, rfl, h⟩ := reps1 rx
    cases e
    cases h with
    | scr h => exact ⟨_, _, rfl, .inl (by rw [← hK]; exact Same.seq s h), fun l n => k _ _ _ (Grow.new1 s n) (.lst upd_same (reps_ints _))⟩
  · obtain ⟨v, rfl, h⟩ := reps1 rx
    cases e
    cases h with
    | lst h r => exact ⟨_, _, rfl, .inl (.of (s _ _ h)), fun l n => k _ _ _ (Grow.new1 s n) (.lst upd_same (r.same (same_upd (s.free n))))⟩
  · obtain ⟨v, rfl, h⟩ := reps1 rx
    cases e
    cases h with
    | tup h r => exact ⟨_, _, rfl, .inr (by rw [← hK]; exact SqT.same s h), fun l n => k _ _ _ (Grow.new1 s n) (.lst upd_same (r.same (same_upd (s.free n))))⟩
  · cases e
/-- isinstance(x, T), T a built-in type -/
def tyP : PV → Option String
  | .non => some "NoneType"
  | .bl _ => some "bool"
  | .int _ => some "int"
  | .str _ => some "str"
  | .tup _ => some "tuple"
  | .lst _ => some "list"
  | _ => none
def isiT (t T : String) : Bool := t == T || (t == "bool" && T == "int")
def pIsi (T : String) (x : PV) : Option PV := (tyP x).map fun t => .bl (isiT t T)
def dIsi (T : String) (d : DE) : DE := fun ρ => (d ρ).bind fun x ρ => ofO (pIsi T x) ρ
theorem tyX_of {K : PySem.W.Frag} {G H : Hp} {q : PV} {v : V} {t : String} (hK : F.K = K) (s : Same G H) (r : Rep F G q v) (h : tyP q = some t) : TyX K H v (.type t) := by
  subst hK
  cases r <;> first | (exfalso; cases h; done) | skip
  case non => cases h; exact .base .non
  case bl b => cases h; exact .base (.bl _)
  case int i => cases h; exact .base (.int _)
  case str x => cases h; exact .base (.str _)
  case lst ps a vs h1 r1 => cases h; exact .base (.lst (s _ _ h1))
  case tup ps a vs h1 r1 =>
    cases h
    rcases h1 with (h1 | ⟨o, h1⟩) | ⟨o, its, n, h1, h2, _⟩
    · exact .base (.tup (s _ _ h1))
    · exact .fTuple (s _ _ h1)
    · exact .kTuple h1 h2
theorem pp_isi {T : String} {y : Str} {p2 : Pos} {d : DE} (hK : F.K = X.K) (hT : T = "int" ∨ T = "bool" ∨ T = "str" ∨ T = "tuple" ∨ T = "list" ∨ T = "dict") (hm : X.mg "isinstance" = none) (hg : Gl X "isinstance") (hm2 : X.mg y = none) (hv2 : bootBuiltins y = some (.type T)) (hg2 : Gl X y) (hn2 : y ≠ "__name__" := by decide) (hd2 : (y == ("__debug__" : Str)) = false := by decide)
    (ha : PE X a (tE F io W d)) (h1 : starEach [a, .Name y p2] X.env = (false, eval a X.env) :: starEach [.Name y p2] X.env := by rfl) (h2 : (backTo pos (starEach [.Name y p2] X.env)).any (·.1) = false := by rfl) (h3 : starEach [.Name y p2] X.env = (false, eval (.Name y p2) X.env) :: starEach [] X.env := by rfl) :
    PE X (.Call (.Name "isinstance" p) [a, .Name y p2] [] pos) (tE F io W (dIsi T d)) := by
  refine (pe_callB call_isi hg hm (by decide +kernel) (pa_cons ha (pa_cons (pe_bltn (v := .ty T) hg2 hm2 hv2 rfl hn2 hd2) pa_nil h3) h1) (by decide) (by decide) h1 h2).imp fun σ H Q ⟨G, Fr, ρ, S, q⟩ => ?_
  refine tD.step S q fun v H1 G1 ρ1 x e1 S1 r1 q1 => ?_
  obtain ⟨z, hz, k⟩ := Post.ofO (γ := Unit) q1 S1
  unfold pIsi at hz
  cases et : tyP x with
  | none => rw [et] at hz; cases hz
  | some t =>
    rw [et] at hz
    cases hz
    have e2 : t = "NoneType" ∨ t = "bool" ∨ t = "int" ∨ t = "str" ∨ t = "tuple" ∨ t = "list" := by
      cases x <;> first | (exfalso; cases et; done) | (cases et; simp)
    refine ⟨v, .ty T, .type t, .type T, isiT t T, rfl, .ty T, tyX_of hK S1.sub r1 et, ?_, k _ G1 H1 (Grow.refl S1.sub) (.bl _)⟩
    rcases e2 with rfl | rfl | rfl | rfl | rfl | rfl <;> rcases hT with rfl | rfl | rfl | rfl | rfl | rfl <;> exact kit_ty (by decide +kernel)
end
end Pl

set_option maxHeartbeats 4000000
/-! P5: the module's names and tables, errors raised, objects of one's own, texts, min of four. -/
namespace Pl
open PySem PySem.Spec PyProof.Rows L2

/-! ### min of four ints -/
section
variable {prog : Program} {w : World} {A : Around} {E : Value → Shared → Prop} {s : Shared}
theorem args_min4 (a b c d : Value) : argsOk "min" ⟨[a, b, c, d], []⟩ := by unfold argsOk; kernel_rfl
theorem min_four_of {a b c d : Value} {Q : Value → Shared → Prop}
    (h : wpAny (model prog w) A.in1 (pyIter (.ref s.heap.objs.size)) (fun it s₂ => ∃ I fp wr n P St bt, it = .ref I ∧ Walks prog w A.in1 I fp wr n P St ∧ St 0 s₂.heap ∧ (∀ b ∈ fp, b < s₂.heap.objs.size) ∧ 0 < n ∧ CmpOf prog w A.in1 .Lt P bt ∧
      ∀ v h' tk, P (argBest bt (n - 1)) v → (∀ b o, b ∉ wr → s₂.heap.get? b = some o → h'.get? b = some o) → Q v { s₂ with heap := h', toks := tk }) E
      { s with heap := s.heap.push { cls := .type "tuple", data := .seq #[a, b, c, d] } }) :
    wpAny (model prog w) A (call (.builtin "min") [a, b, c, d]) Q E s := by
  have nm : (toString "min" ++ toString ".loop" : String) = "min.loop" := by decide
  refine call_function_tree F.kind_min F.plain_min F.entry_min (args_min4 _ _ _ _) ?_
  show wpAny _ A.in1 (Builtin.Builtins.bindParams "min" ["key", "default"] 0 ⟨[], []⟩ >>= _) _ _ s
  refine wpAny_bind (wpAny_of_eq (show Builtin.Builtins.bindParams "min" ["key", "default"] 0 ⟨[], []⟩ = pure [none, none] from rfl) ?_)
  show wpAny _ A.in1 (newTuple [a, b, c, d] >>= _) _ _ s
  refine wpAny_bind (wpAny_newObj_type ?_)
  refine wpAny_bind (wpAny_mono h (fun it s₂ h₂ => ?_) fun _ _ e => e)
  obtain ⟨I, fp, wr, n, P, St, bt, rfl, W, hst, hfp, hn, hcmp, hQ⟩ := h₂
  refine wpAny_bind (wpAny_newObj_type ?_)
  have hSf : s₂.heap.objs.size ∉ fp := fun hm => Nat.lt_irrefl _ (hfp _ hm)
  rw [nm]
  refine wpAny_pure ⟨plainId_quiet F.plain_min_loop _, codeAny_min_loop_first W bt hcmp s₂.heap.objs.size hSf hn (W.frame _ _ _ hst fun b _ o e => Heap.get?_push_of_some _ e) (Heap.get?_push_size _ rfl) fun v h' tk hP hk => ?_⟩
  exact hQ v h' tk hP fun b o hbw e => hk b o hbw (Nat.ne_of_lt (Heap.lt_size e)) (Heap.get?_push_of_some _ e)
theorem min_four {a b c d : Int} {t u v y : Tok} {Q : Value → Shared → Prop} (hh : A.handled = none)
    (h : ∀ h' tk m z, (∀ c o, s.heap.get? c = some o → h'.get? c = some o) → m = min (min a b) (min c d) → Q (.int m z) { s with heap := h', toks := tk }) :
    wpAny (model prog w) A (call (.builtin "min") [.int a t, .int b u, .int c v, .int d y]) Q E s := by
  have hT : (s.heap.push { cls := .type "tuple", data := .seq #[.int a t, .int b u, .int c v, .int d y] }).IsTuple s.heap.objs.size (intItems #[(a, t), (b, u), (c, v), (d, y)]) := ⟨_, Heap.get?_push_size _ rfl, rfl, 0, by simp [intItems]⟩
  refine min_four_of (wpAny_pyIter_tuple hT ?_)
  have hsz : (s.heap.push { cls := .type "tuple", data := .seq #[.int a t, .int b u, .int c v, .int d y] }).objs.size = s.heap.objs.size + 1 := Heap.size_push ..
  refine ⟨_, [_, s.heap.objs.size], [_], _, _, _, _, rfl, Walks.tuple (A := A.in1) hh _ s.heap.objs.size (by rw [hsz]; exact Nat.ne_of_lt (Nat.lt_succ_self _)) (intItems #[(a, t), (b, u), (c, v), (d, y)]),
    ⟨⟨_, Heap.get?_push_size _ rfl, rfl, rfl⟩, hT.push _⟩, fun c hc => ?_, by simp [intItems], CmpOf.ints_lt (numAt #[(a, t), (b, u), (c, v), (d, y)]) (fun _ _ => intItems_at), fun r h' tk hP hk => ?_⟩
  · show c < ((s.heap.push _).push _).objs.size
    rw [Heap.size_push, hsz]
    rcases List.mem_cons.mp hc with rfl | hc
    · rw [hsz]; exact Nat.lt_succ_self _
    · rcases List.mem_cons.mp hc with rfl | hc
      · exact Nat.lt_succ_of_lt (Nat.lt_succ_self _)
      · cases hc
  · have hold : ∀ c o, s.heap.get? c = some o → h'.get? c = some o := fun c o e => by
      refine hk c o (fun hm => ?_) (Heap.get?_push_of_some _ (Heap.get?_push_of_some _ e))
      rcases List.mem_cons.mp hm with e1 | hm
      · have := Heap.lt_size e; rw [e1, hsz] at this; exact Nat.lt_irrefl _ (Nat.lt_of_succ_lt this)
      · cases hm
    have hP' : (intItems #[(a, t), (b, u), (c, v), (d, y)])[argBest (fun i j => decide (numAt #[(a, t), (b, u), (c, v), (d, y)] i < numAt #[(a, t), (b, u), (c, v), (d, y)] j)) 3]? = some r := by
      have hsz2 : (intItems #[(a, t), (b, u), (c, v), (d, y)]).size - 1 = 3 := by simp [intItems]
      rw [← hsz2]; exact hP
    obtain ⟨b1, b2⟩ := argBest_lt (numAt #[(a, t), (b, u), (c, v), (d, y)]) 3
    generalize argBest (fun i j => decide (numAt #[(a, t), (b, u), (c, v), (d, y)] i < numAt #[(a, t), (b, u), (c, v), (d, y)] j)) 3 = k at *
    have m0 := b2 0 (by omega)
    have m1 := b2 1 (by omega)
    have m2 := b2 2 (by omega)
    have m3 := b2 3 (by omega)
    have e0 : numAt #[(a, t), (b, u), (c, v), (d, y)] 0 = a := rfl
    have e1 : numAt #[(a, t), (b, u), (c, v), (d, y)] 1 = b := rfl
    have e2 : numAt #[(a, t), (b, u), (c, v), (d, y)] 2 = c := rfl
    have e3 : numAt #[(a, t), (b, u), (c, v), (d, y)] 3 = d := rfl
    rw [e0] at m0
    rw [e1] at m1
    rw [e2] at m2
    rw [e3] at m3
    rcases (show k = 0 ∨ k = 1 ∨ k = 2 ∨ k = 3 by omega) with rfl | rfl | rfl | rfl
    · rw [e0] at m1 m2 m3
      have hP' : some (Value.int a t) = some r := by simpa [intItems] using hP'
      cases hP'
      exact h h' tk a t hold (by omega)
    · rw [e1] at m0 m2 m3
      have hP' : some (Value.int b u) = some r := by simpa [intItems] using hP'
      cases hP'
      exact h h' tk b u hold (by omega)
    · rw [e2] at m0 m1 m3
      have hP' : some (Value.int c v) = some r := by simpa [intItems] using hP'
      cases hP'
      exact h h' tk c v hold (by omega)
    · rw [e3] at m0 m1 m2
      have hP' : some (Value.int d y) = some r := by simpa [intItems] using hP'
      cases hP'
      exact h h' tk d y hold (by omega)
end
section
variable {X : Cx} {F : Fx} {io : Option Addr} {W : WX}
theorem call_min4 (hc : X.calm = true) : CallR X (.builtin "min") (fun xs H Q => ∃ a b c d, xs = [.int a, .int b, .int c, .int d] ∧ Q (.int (min (min a b) (min c d))) H) := by
  intro pins s σ H xs us Q I r h
  obtain ⟨a, b, c, d, rfl, q⟩ := h
  cases r with
  | cons r1 r =>
    cases r with
    | cons r2 r =>
      cases r with
      | cons r3 r =>
        cases r with
        | cons r4 r =>
          cases r
          obtain ⟨t, rfl⟩ := r1
          obtain ⟨u, rfl⟩ := r2
          obtain ⟨v, rfl⟩ := r3
          obtain ⟨y, rfl⟩ := r4
          refine min_four (I.ok.hd hc) fun h' tk m z k e => ⟨_, H, I.kept k, ?_, q⟩
          subst e
          exact ⟨_, rfl⟩
def fMin4 : List PV → Option PV
  | [.int a, .int b, .int c, .int d] => some (.int (min (min a b) (min c d)))
  | _ => none
theorem f_min4 : CalOk F (fun xs H Q => ∃ a b c d, xs = [.int a, .int b, .int c, .int d] ∧ Q (.int (min (min a b) (min c d))) H) fMin4 := by
  intro G H vs xs z Q s rx e k
  unfold fMin4 at e
  split at e
  · cases e
    cases rx with
    | cons r1 r =>
      cases r with
      | cons r2 r =>
        obtain ⟨u, w, rfl, h2, h3⟩ := reps2 r
        cases r1
        cases r2
        cases h2
        cases h3
        exact ⟨_, _, _, _, rfl, k _ G H (Grow.refl s) (.int _)⟩
  · cases e
/-! ### join -/
def allStr : List PV → Option (List Str)
  | [] => some []
  | .str b :: ps => (allStr ps).map (b :: ·)
  | _ => none
theorem strs_of {G : Hp} : ∀ {ps : List PV} {vs : List V} {bs : List Str}, Reps F G ps vs → allStr ps = some bs → vs = bs.map V.str
  | _, _, _, .nil, e => by cases e; rfl
  | p :: ps, _, bs, .cons h r, e => by
    cases h <;> first | (exfalso; cases e; done) | skip
    case str b =>
      unfold allStr at e
      cases q : allStr ps with
      | none => rw [q] at e; cases e
      | some l => rw [q] at e; cases e; rw [strs_of r q]; rfl
def pJoin (x y : PV) : Option PV := match x, y with
  | .str a, .lst ys => (match allStr ys with
    | some bs => if (bs.map (·.length)).sum + bs.length * a.length ≤ LIM then some (.str (Txt.join a bs)) else none
    | none => none)
  | _, _ => none
/-- a method of one argument, by values -/
def MtOk (F : Fx) (r : V → List V → Hp → VK → Prop) (f : PV → PV → Option PV) : Prop := ∀ (G H : Hp) (v u : V) (x y z : PV) (Q : VK), Same G H → Rep F G x v → Rep F G y u → f x y = some z → (∀ v' G' H', Grow G H G' H' → Rep F G' z v' → Q v' H') → r v [u] H Q
def isStr : PV → Bool
  | .str _ => true
  | _ => false
def dBinS (f : PV → PV → Option PV) (da db : DE) : DE := fun ρ => (da ρ).bind fun x ρ => if isStr x = true then (db ρ).bind fun y ρ => ofO (f x y) ρ else .stuck
theorem m1_step {r : V → List V → Hp → VK → Prop} {f : PV → PV → Option PV} {da db : DE} (hm : MtOk F r f) {σ : L2.St} {H : Hp} {Q : VK} (h : tE F io W (dBinS f da db) σ H Q) : tM1 r (tE F io W da) (tE F io W db) σ H Q := by
  obtain ⟨G, Fr, ρ, S, q⟩ := h
  refine tD.step S q fun v H1 G1 ρ1 x e1 S1 r1 q1 => ?_
  by_cases hx : isStr x = true
  · rw [if_pos hx] at q1
    refine ⟨?_, tD.step S1 q1 fun u H2 G2 ρ2 y e2 S2 r2 q2 => ?_⟩
    · cases r1 <;> first | exact ⟨_, rfl⟩ | cases hx
    obtain ⟨z, hz, k⟩ := Post.ofO (γ := Unit) q2 S2
    exact hm G2 H2 v u x y z Q S2.sub (r1.same e2) r2 hz k
  · rw [if_neg hx] at q1
    exact q1.elim
variable {o e : Expr} {apos pos : Pos}
theorem pp_join {da db : DE} (ho : PE X o (tE F io W da)) (he : PE X e (tE F io W db)) (hs : starEach [e] X.env = [(false, eval e X.env)] := by rfl) (hbase : attributeBase o "join" X.env (eval o X.env) = eval o X.env := by rfl) (hline : (apos.endLine == pos.line) = true := by rfl) :
    PE X (.Call (.Attribute o "join" apos) [e] [] pos) (tE F io W (dBinS pJoin da db)) := by
  refine (pe_join ho he hs hbase hline).imp fun σ H Q h => m1_step (F := F) (io := io) (W := W) (f := pJoin) ?_ h
  intro G H v u x y z Q s rx ry e k
  cases rx <;> cases ry <;> first | (exfalso; cases e; done) | skip
  case str.lst a ys b us hy ry =>
    unfold pJoin at e
    dsimp only at e
    cases q : allStr ys with
    | none => rw [q] at e; cases e
    | some bs =>
      rw [q] at e
      obtain ⟨l, rfl⟩ := ite_some e
      exact ⟨_, _, bs, rfl, rfl, .inl (.of (by rw [← strs_of ry q]; exact s _ _ hy)), lim_line l, k _ G H (Grow.refl s) (.str _)⟩
end
end Pl

set_option maxHeartbeats 4000000
/-! P6: the module's names and tables, errors raised, objects of one's own, what is handed in to be changed. -/
namespace Pl
open PySem PySem.Spec PyProof.Rows L2

section
variable {X : Cx} {F : Fx} {io : Option Addr} {W : WX} {a b e : Expr} {es : List Expr} {pos : Pos}
/-! ### the module's constants -/
theorem pp_gint {x : Str} {i : Int} (hm : ∃ t, X.mg x = some (.int i t)) (hg : Gl X x) (hd : (x == ("__debug__" : Str)) = false := by decide) : PE X (.Name x pos) (tE F io W (dC (.int i))) := by
  obtain ⟨t, hm⟩ := hm
  exact pp_c (pe_glob (v := .int i) hg hm ⟨t, rfl⟩ hd) fun _ => .int i
theorem pp_gstr {x z : Str} (hm : ∃ t, X.mg x = some (.str z t)) (hg : Gl X x) (hd : (x == ("__debug__" : Str)) = false := by decide) : PE X (.Name x pos) (tE F io W (dC (.str z))) := by
  obtain ⟨t, hm⟩ := hm
  exact pp_c (pe_glob (v := .str z) hg hm ⟨t, rfl⟩ hd) fun _ => .str z
/-- a tuple of the module's top -/
theorem pp_gtup {x : Str} {a : Addr} {p : PV} (hm : X.mg x = some (.ref a)) (r : ∀ G, Rep F G p (.ref a)) (hg : Gl X x) (hd : (x == ("__debug__" : Str)) = false := by decide) : PE X (.Name x pos) (tE F io W (dC p)) :=
  pp_c (pe_glob (v := .ref a) hg hm rfl hd) r

/-! ### plain values that stand in the written part -/
mutual
def repB (K : PySem.W.Frag) : PV → Value → Bool
  | .non, .none => true
  | .bl b, .bool c => b == c
  | .int i, .int j _ => decide (i = j)
  | .str x, .str y _ => decide (x = y)
  | .tup ps, .ref a => (match K.lookup a with
    | some ⟨.type "tuple", _, .seq its _, _⟩ => decide (its.size ≤ sizeLine) && repsB K ps its.toList
    | _ => false)
  | _, _ => false
def repsB (K : PySem.W.Frag) : List PV → List Value → Bool
  | [], [] => true
  | p :: ps, u :: us => repB K p u && repsB K ps us
  | _, _ => false
end
mutual
theorem repB_ok : ∀ {p : PV} {u : Value}, repB F.K p u = true → ∃ v, RelV v u ∧ ∀ G, Rep F G p v
  | .non, .none, _ => ⟨.non, rfl, fun _ => .non⟩
  | .bl b, .bool c, h => by
    have e : b = c := eq_of_beq h
    subst e
    exact ⟨.bl b, rfl, fun _ => .bl b⟩
  | .int i, .int j t, h => by
    have e : i = j := of_decide_eq_true h
    subst e
    exact ⟨.int i, ⟨t, rfl⟩, fun _ => .int i⟩
  | .str x, .str y t, h => by
    have e : x = y := of_decide_eq_true h
    subst e
    exact ⟨.str x, ⟨t, rfl⟩, fun _ => .str x⟩
  | .tup ps, .ref a, h => by
    unfold repB at h
    split at h
    · rename_i dd its n sl q
      obtain ⟨h1, h2⟩ := Bool.and_eq_true_iff.mp h
      obtain ⟨vs, r, g⟩ := repsB_ok h2
      exact ⟨.ref a, rfl, fun G => .tup (.inr ⟨_, its, n, q, rfl, rfl, of_decide_eq_true h1, r⟩) (g G)⟩
    · cases h
  | .lst _, _, h => by cases h
  | .dct _ _, _, h => by cases h
  | .dks _ _, _, h => by cases h
  | .ins _ _, _, h => by cases h
  | .scr _, _, h => by cases h
theorem repsB_ok : ∀ {ps : List PV} {us : List Value}, repsB F.K ps us = true → ∃ vs, Vals vs us ∧ ∀ G, Reps F G ps vs
  | [], [], _ => ⟨[], .nil, fun _ => .nil⟩
  | p :: ps, u :: us, h => by
    obtain ⟨h1, h2⟩ := Bool.and_eq_true_iff.mp (show (repB F.K p u && repsB F.K ps us) = true from h)
    obtain ⟨v, r, g⟩ := repB_ok h1
    obtain ⟨vs, r2, g2⟩ := repsB_ok h2
    exact ⟨v :: vs, .cons r r2, fun G => .cons (g G) (g2 G)⟩
end
/-- a dict of the module's top with text keys -/
def tabEs (K : PySem.W.Frag) : List (Str × PV) → List DictEntry → Bool
  | [], [] => true
  | q :: qs, e :: es => (match e.key with
    | .str x _ => decide (x = q.1)
    | _ => false) && (repB K q.2 e.val && tabEs K qs es)
  | _, _ => false
def tabB (K : PySem.W.Frag) (a : Addr) (kvs : List (Str × PV)) : Bool := match K.lookup a with
  | some ⟨_, _, .dict es _, _⟩ => tabEs K kvs es.toList
  | _ => false
structure TabOk (F : Fx) (a : Addr) (kvs : List (Str × PV)) : Prop where
  kd : ∃ es n, KDict F.K F.w a es n
  vals : tabB F.K a kvs = true
theorem tab_find {z : Str} : ∀ {kvs : List (Str × PV)} {es : List DictEntry}, tabEs F.K kvs es = true → es.any (·.refKey) = false ∧ match kvs.lookup z with
    | some p => ∃ e v, es.find? (·.key.isStr z) = some e ∧ RelV v e.val ∧ ∀ G, Rep F G p v
    | none => es.find? (·.key.isStr z) = none
  | [], [], _ => ⟨rfl, rfl⟩
  | q :: qs, e :: es, h => by
    obtain ⟨h1, h2⟩ := Bool.and_eq_true_iff.mp (show ((match e.key with
      | .str x _ => decide (x = q.1)
      | _ => false) && (repB F.K q.2 e.val && tabEs F.K qs es)) = true from h)
    obtain ⟨h2, h3⟩ := Bool.and_eq_true_iff.mp h2
    obtain ⟨i1, i2⟩ := tab_find (z := z) h3
    split at h1
    · rename_i x t ek
      have ex : x = q.1 := of_decide_eq_true h1
      obtain ⟨v, r, g⟩ := repB_ok h2
      refine ⟨?_, ?_⟩
      · rw [List.any_cons, i1, Bool.or_false]
        show (match e.key with
          | .ref _ => true
          | _ => false) = false
        rw [ek]
      · by_cases c : z = q.1
        · have e1 : List.lookup z (q :: qs) = some q.2 := by
            show (match z == q.1 with
              | true => some q.2
              | false => List.lookup z qs) = some q.2
            rw [c, beq_self_eq_true]
          rw [e1]
          refine ⟨e, v, ?_, r, g⟩
          have : e.key.isStr z = true := by
            rw [ek, c, ← ex]
            simp [Value.isStr]
          rw [List.find?_cons, this]
        · have e1 : List.lookup z (q :: qs) = List.lookup z qs := by
            show (match z == q.1 with
              | true => some q.2
              | false => List.lookup z qs) = List.lookup z qs
            rw [beq_eq_false_iff_ne.mpr c]
          have e2 : e.key.isStr z = false := by
            rw [ek]
            simp [Value.isStr]
            intro y
            exact c (by rw [← y, ex])
          rw [e1, List.find?_cons, e2]
          exact i2
    · cases h1
  | [], _ :: _, h => by cases h
  | _ :: _, [], h => by cases h
theorem tab_get {a : Addr} {kvs : List (Str × PV)} (T : TabOk F a kvs) (z : Str) : match kvs.lookup z with
    | some p => ∃ u v, PySem.W.nsIn F.K a z = some (some u) ∧ RelV v u ∧ ∀ G, Rep F G p v
    | none => PySem.W.nsIn F.K a z = some none := by
  have h := T.vals
  unfold tabB at h
  split at h
  · rename_i oc dd es n sl q
    obtain ⟨i1, i2⟩ := tab_find (z := z) h
    unfold PySem.W.nsIn
    rw [q]
    cases c : kvs.lookup z with
    | none =>
      rw [c] at i2
      dsimp only at i2 ⊢
      rw [i2]
      dsimp only
      rw [i1]
      rfl
    | some p =>
      rw [c] at i2
      obtain ⟨e, v, h1, h2, h3⟩ := i2
      dsimp only
      rw [h1]
      exact ⟨_, v, rfl, h2, h3⟩
  · cases h
def pInT (kvs : List (Str × PV)) : PV → Option PV
  | .str z => some (.bl (kvs.lookup z).isSome)
  | _ => none
def pGetT (kvs : List (Str × PV)) : PV → Option PV
  | .str z => kvs.lookup z
  | _ => none
/-- x in TABLE -/
theorem pp_inT {x : Str} {p2 : Pos} {d : DE} {k : Addr} {kvs : List (Str × PV)} (hK : F.K = X.K) (hw : F.w = X.w) (T : TabOk F k kvs) (hm : X.mg x = some (.ref k)) (hg : Gl X x) (h : PE X a (tE F io W d)) (hd : (x == ("__debug__" : Str)) = false := by decide) :
    PE X (.Compare a [.In] [.Name x p2] pos) (tE F io W (dUn (pInT kvs) d)) := by
  obtain ⟨es, n, D⟩ := T.kd
  refine (pe_cmpR (op_in_kd (X := X) (d := k) (es := es) (n := n) (by rw [← hK, ← hw]; exact D)) h (pe_glob (v := .ref k) hg hm rfl hd) rfl).imp fun σ H Q ⟨G, Fr, ρ, S, q⟩ => ?_
  refine tD.step S q fun v H1 G1 ρ1 x e1 S1 r1 q1 => ?_
  obtain ⟨z, hz, kk⟩ := Post.ofO (γ := Unit) q1 S1
  cases r1 <;> first | (exfalso; cases hz; done) | skip
  case str y =>
    cases hz
    have g := tab_get T y
    cases c : kvs.lookup y with
    | none =>
      rw [c] at g
      refine ⟨y, none, rfl, rfl, by rw [← hK]; exact g, ?_⟩
      rw [c] at kk
      exact kk _ G1 H1 (Grow.refl S1.sub) (.bl _)
    | some p =>
      rw [c] at g
      obtain ⟨u, v, h1, h2, h3⟩ := g
      refine ⟨y, some u, rfl, rfl, by rw [← hK]; exact h1, ?_⟩
      rw [c] at kk
      exact kk _ G1 H1 (Grow.refl S1.sub) (.bl _)
def dGetT (kvs : List (Str × PV)) (d : DE) : DE := dUn (pGetT kvs) d
theorem pt_inT {x : Str} {p2 : Pos} {d : DE} {k : Addr} {kvs : List (Str × PV)} (hK : F.K = X.K) (hw : F.w = X.w) (T : TabOk F k kvs) (hm : X.mg x = some (.ref k)) (hg : Gl X x) (h : PE X a (tE F io W d)) (hd : (x == ("__debug__" : Str)) = false := by decide) :
    PT X (.Compare a [.In] [.Name x p2] pos) (tT F io W (dAsB (dUn (pInT kvs) d))) := by
  obtain ⟨es, n, D⟩ := T.kd
  refine (pt_cmpR (op_in_kd (X := X) (d := k) (es := es) (n := n) (by rw [← hK, ← hw]; exact D)) h (pe_glob (v := .ref k) hg hm rfl hd) rfl).imp fun σ H Q ⟨G, Fr, ρ, S, q⟩ => ?_
  have q : Post RB F io W Fr G σ Q (((d ρ).bind fun x ρ => ofO (pInT kvs x) ρ).bind fun x ρ => ofO (asB x) ρ) := q
  have eb : ((d ρ).bind fun x ρ => ofO (pInT kvs x) ρ).bind (fun x ρ => ofO (asB x) ρ) = (d ρ).bind fun x ρ => (ofO (pInT kvs x) ρ).bind fun x ρ => ofO (asB x) ρ := by cases d ρ <;> rfl
  rw [eb] at q
  refine tD.step S q fun v H1 G1 ρ1 x e1 S1 r1 q1 => ?_
  cases r1 <;> first | exact q1.elim | skip
  case str y =>
    have g := tab_get T y
    have q1 : ∀ v G' H', Same G1 G' → StOk F io G' Fr H' σ ρ1 → (kvs.lookup y).isSome = v → Q v H' := q1
    cases c : kvs.lookup y with
    | none =>
      rw [c] at g q1
      exact ⟨y, none, rfl, rfl, by rw [← hK]; exact g, _, rfl, q1 _ G1 H1 (Same.refl _) S1 rfl⟩
    | some p =>
      rw [c] at g q1
      obtain ⟨u, v, h1, h2, h3⟩ := g
      exact ⟨y, some u, rfl, rfl, by rw [← hK]; exact h1, _, rfl, q1 _ G1 H1 (Same.refl _) S1 rfl⟩
/-- TABLE[x] -/
theorem pp_getT {x : Str} {p2 : Pos} {d : DE} {k : Addr} {kvs : List (Str × PV)} (hK : F.K = X.K) (hw : F.w = X.w) (T : TabOk F k kvs) (hm : X.mg x = some (.ref k)) (hg : Gl X x) (h : PE X a (tE F io W d)) (hns : NoSl a) (hd : (x == ("__debug__" : Str)) = false := by decide) :
    PE X (.Subscript (.Name x p2) a pos) (tE F io W (dGetT kvs d)) := by
  obtain ⟨es, n, D⟩ := T.kd
  have D : KDict X.K X.w k es n := by rw [← hK, ← hw]; exact D
  have hb : PE X (.Name x p2) (tC (.ref k)) := pe_glob (v := .ref k) hg hm rfl hd
  refine ⟨fun pins s σ H Q I ⟨G, Fr, ρ, S, q⟩ => ?_⟩
  refine subD_of PySem.F.slot_dict_getitem.lookup hns (thn (hb.run pins s σ H (fun v H1 => v = .ref k ∧ H1 = H) I ⟨rfl, rfl⟩) fun u s1 ⟨x, H1, I1, rx, ex, eH⟩ => ?_)
  subst ex
  subst eH
  obtain rfl : u = Value.ref k := rx
  refine thn (h.run pins s1 σ H1 (fun v H2 => ∃ G1 ρ1 x, StOk F io G1 Fr H2 σ ρ1 ∧ Rep F G1 x v ∧ Post (Rep F) F io W Fr G1 σ Q (ofO (pGetT kvs x) ρ1)) I1 (tD.step S q fun v H2 G1 ρ1 x e1 S1 r1 q1 => ⟨G1, ρ1, x, S1, r1, q1⟩)) fun iv s2 ⟨y, H2, I2, ry, G1, ρ1, x, S1, r1, q1⟩ => ?_
  obtain ⟨z, hz, kk⟩ := Post.ofO (γ := Unit) q1 S1
  refine ⟨kd_type D I2, ?_⟩
  cases r1 <;> first | (exfalso; cases hz; done) | skip
  case str y =>
    have g := tab_get T y
    have hz : kvs.lookup y = some z := hz
    rw [hz] at g
    obtain ⟨u, v, h1, h2, h3⟩ := g
    exact op_item_kd D pins s2 σ H2 (.ref k) (.str y) (.ref k) iv Q I2 rfl ry ⟨y, u, v, rfl, rfl, by rw [← hK]; exact h1, h2, kk _ G1 H2 (Grow.refl S1.sub) (h3 _)⟩

/-! ### errors -/
theorem pmk_own0 {x : Str} {p : Pos} {C : Addr} {bmB : List Value} {B newId initId : String} (FB : ExcBaseFacts B newId initId bmB) (q : PySem.W.excIn X.K C bmB newId = true) (gC : X.mg x = some (.ref C)) (kC : PySem.W.keepIn X.K (.ref C) = true) (r : Raises X (.ref C)) (hg : Gl X x)
    (hdb : (x == ("__debug__" : Str)) = false := by decide) : PMk X (.Call (.Name x p) [] [] pos) (fun _ H Q => Q (.ref C) none H) := by
  intro pins s σ H Q I h
  refine wpAny_Call_Name_kw (ld_glob I hg gC ?_ hdb)
  refine PySem.W.callWith_K0 I.kIn kC ?_
  obtain ⟨bm, N, nm, qn, bs, hdct, sn, sub, ab, col, dd, k0, k1, k2, k3, k5, mN, hC, hN, hni, T⟩ := exc_obj I.kIn q
  obtain ⟨hp1, g1, d1, tk1, os1⟩ := s
  exact wpAny_call_exc_subT FB T hC hN hni (fun h' e hm => mk_of I hm r h (I.hok.gone hm.new)) (Nat.zero_le _)
/-- facts of an own class of error, without an __init__ of its own -/
structure ExcC (X : Cx) (x : Str) (C : Addr) : Prop where
  mg : X.mg x = some (.ref C)
  ok : PySem.W.excIn X.K C He.veBase "ValueError.__new__" = true
  kp : PySem.W.keepIn X.K (.ref C) = true
  rs : Raises X (.ref C)
def sRaise (c : Nat) : DS := fun ρ => .exc c [] ρ
theorem st_raise {x : Str} {p pos2 : Pos} {c : Nat} (hc : X.calm = true) (tk : Takes X W) (E : ExcC X x (F.cls c)) (hg : Gl X x) (hdb : (x == ("__debug__" : Str)) = false := by decide) : PS X (.Raise (some (.Call (.Name x p) [] [] pos2)) none pos) (tS F io W (sRaise c)) :=
  (ps_raise hc tk (pmk_own0 PySem.F.excBase_ValueError E.ok E.mg E.kp E.rs hg hdb)).imp fun D σ H ⟨G, Fr, ρ, S, q⟩ => q none σ G H (Same.refl _) S rfl

/-! ### lists of one's own -/
def sNewL (i : Nat) (d : DD (List PV)) : DS := fun ρ => (d ρ).toOut fun xs ρ => if xs.length ≤ 1000 then .nx (ρ.set i (some (.own (.lst xs)))) else .stuck
theorem st_newL {i : Nat} {x : Str} {d : DD (List PV)} {pos' p2 : Pos} (hN : X.N.Nodup) (hi : X.N[i]? = some x) (hx : Loc X.env.scope x) (h : PA X es (tA F io W d)) (hs : swapsWith (.List es p2) (some (.Name x pos')) pos.line X.env = pure false := by rfl)
    (hf : X.fn x = true ∨ X.env.scope.names.lookup x = some .local := by first | exact .inl rfl | exact .inr rfl | assumption) : PS X (.Assign [.Name x pos'] (.List es p2) pos) (tS F io W (sNewL i d)) := by
  refine (ps_set hN hi hx (pe_lst h) hs hf).imp fun D σ H ⟨G, Fr, ρ, S, q⟩ => ?_
  refine tD.stepS S q fun vs H1 G1 ρ1 xs e1 S1 r1 q1 => ?_
  by_cases l : xs.length ≤ 1000
  · rw [if_pos l] at q1
    refine ⟨by rw [← r1.length]; exact line1000 l, fun p n => ?_⟩
    exact PostS.next q1 (S1.new_own n (.lst upd_same r1))
  · rw [if_neg l] at q1
    exact q1.elim
/-- what a slot's own object holds is changed -/
theorem StOk.mut_own {G Fr H : Hp} {σ : L2.St} {ρ : Rho} {i : Nat} {c c' : PV} {p : Addr} {o : HO} (S : StOk F io G Fr H σ ρ) (e : ρ[i]? = some (some (.own c))) (es : σ[i]? = some (some (.ref p))) (r : Own F G (upd H p o) p c') : StOk F io G Fr (upd H p o) σ (ρ.set i (some (.own c'))) := by
  obtain ⟨a, h1, h2, h3, h4, h5⟩ := S.own i c e
  rw [es] at h1
  cases h1
  have k : ∀ b u, b ≠ p → H b = some u → upd H p o b = some u := fun b u n h => by rw [upd_ne n]; exact h
  refine ⟨fun b u h => k b u (ne_of_none h h2) (S.sub b u h), fun b u h => k b u (ne_of_none h h3) (S.fsub b u h), S.dis, by rw [List.length_set]; exact S.len, fun j q ej => ?_, fun j d ej => ?_, fun j l d d' b ej el s1 s2 => ?_, fun b eb => ?_, fun j d ej => ?_, fun j l d d' ej el => ?_⟩
  · rcases slot_set ej with ⟨_, z⟩ | ⟨n, z⟩
    · cases z
    · exact S.val j q z
  · rcases slot_set ej with ⟨rfl, z⟩ | ⟨n, z⟩
    · injection z with z
      subst z
      exact ⟨p, es, h2, h3, r, h5⟩
    · obtain ⟨b, g1, g2, g3, g4, g5⟩ := S.own j d z
      refine ⟨b, g1, g2, g3, g4.same (Same.refl _) fun u hu => k b u (fun w => ?_) hu, g5⟩
      subst w
      exact n (S.sep i j c d b e z es g1)
  · have old : ∀ j d, (ρ.set i (some (.own c')))[j]? = some (some (SV.own d)) → ∃ d', ρ[j]? = some (some (SV.own d')) := fun j d h => by
      rcases slot_set h with ⟨rfl, _⟩ | ⟨_, z⟩
      · exact ⟨c, e⟩
      · exact ⟨d, z⟩
    obtain ⟨d1, z1⟩ := old j d ej
    obtain ⟨d2, z2⟩ := old l d' el
    exact S.sep j l d1 d2 b z1 z2 s1 s2
  · obtain ⟨g1, g2, u, g3⟩ := S.iot b eb
    exact ⟨g1, g2, u, k b u (fun w => h5 (by rw [← w]; exact eb)) g3⟩
  · rcases slot_set ej with ⟨_, z⟩ | ⟨n, z⟩
    · cases z
    · obtain ⟨b, g1, g2, g3⟩ := S.inp j d z
      exact ⟨b, g1, g2, g3.same (Same.refl _) fun u hu => k b u (fun w => h5 (by rw [← w]; exact g1)) hu⟩
  · rcases slot_set ej with ⟨_, z⟩ | ⟨n, z⟩
    · cases z
    · rcases slot_set el with ⟨_, z2⟩ | ⟨n2, z2⟩
      · cases z2
      · exact S.one j l d d' z z2
/-- what was handed in is changed -/
theorem StOk.mut_inp {G Fr H : Hp} {σ : L2.St} {ρ : Rho} {i : Nat} {c c' : PV} {p : Addr} {o : HO} (S : StOk F io G Fr H σ ρ) (e : ρ[i]? = some (some (.inp c))) (es : σ[i]? = some (some (.ref p))) (r : Own F G (upd H p o) p c') : StOk F io G Fr (upd H p o) σ (ρ.set i (some (.inp c'))) := by
  obtain ⟨a, h1, h2, h3⟩ := S.inp i c e
  rw [es] at h2
  cases h2
  obtain ⟨n1, n2, o1, n3⟩ := S.iot p h1
  have k : ∀ b u, b ≠ p → H b = some u → upd H p o b = some u := fun b u n h => by rw [upd_ne n]; exact h
  refine ⟨fun b u h => k b u (ne_of_none h n1) (S.sub b u h), fun b u h => k b u (ne_of_none h n2) (S.fsub b u h), S.dis, by rw [List.length_set]; exact S.len, fun j q ej => ?_, fun j d ej => ?_, fun j l d d' b ej el s1 s2 => ?_, fun b eb => ?_, fun j d ej => ?_, fun j l d d' ej el => ?_⟩
  · rcases slot_set ej with ⟨_, z⟩ | ⟨n, z⟩
    · cases z
    · exact S.val j q z
  · rcases slot_set ej with ⟨_, z⟩ | ⟨n, z⟩
    · cases z
    · obtain ⟨b, g1, g2, g3, g4, g5⟩ := S.own j d z
      exact ⟨b, g1, g2, g3, g4.same (Same.refl _) fun u hu => k b u (fun w => g5 (by rw [w]; exact h1)) hu, g5⟩
  · rcases slot_set ej with ⟨_, z⟩ | ⟨n, z⟩
    · cases z
    · rcases slot_set el with ⟨_, z2⟩ | ⟨n2, z2⟩
      · cases z2
      · exact S.sep j l d d' b z z2 s1 s2
  · obtain ⟨g1, g2, u, g3⟩ := S.iot b eb
    refine ⟨g1, g2, ?_⟩
    rw [h1] at eb
    cases eb
    exact ⟨o, upd_same⟩
  · rcases slot_set ej with ⟨rfl, z⟩ | ⟨n, z⟩
    · injection z with z
      subst z
      exact ⟨p, h1, es, r⟩
    · exact absurd (S.one i j c d e z) n
  · have old : ∀ j d, (ρ.set i (some (.inp c')))[j]? = some (some (SV.inp d)) → ∃ d', ρ[j]? = some (some (SV.inp d')) := fun j d h => by
      rcases slot_set h with ⟨rfl, _⟩ | ⟨_, z⟩
      · exact ⟨c, e⟩
      · exact ⟨d, z⟩
    obtain ⟨d1, z1⟩ := old j d ej
    obtain ⟨d2, z2⟩ := old l d' el
    exact S.one j l d1 d2 z1 z2
/-- an object that may be changed at a slot -/
def slotM (ρ : Rho) (i : Nat) : Option PV := match ρ[i]? with
  | some (some (.own c)) => some c
  | some (some (.inp c)) => some c
  | _ => none
def putM (ρ : Rho) (i : Nat) (c : PV) : Rho := match ρ[i]? with
  | some (some (.own _)) => ρ.set i (some (.own c))
  | some (some (.inp _)) => ρ.set i (some (.inp c))
  | _ => ρ
theorem slotM_at {G Fr H : Hp} {σ : L2.St} {ρ : Rho} {i : Nat} {c : PV} (S : StOk F io G Fr H σ ρ) (e : slotM ρ i = some c) : ∃ p, σ[i]? = some (some (V.ref p)) ∧ G p = none ∧ Fr p = none ∧ Own F G H p c ∧
    ∀ o c', Own F G (upd H p o) p c' → StOk F io G Fr (upd H p o) σ (putM ρ i c') := by
  unfold slotM at e
  unfold putM
  cases q : ρ[i]? with
  | none => rw [q] at e; cases e
  | some x =>
    rw [q] at e
    cases x with
    | none => cases e
    | some sv =>
      cases sv with
      | val p => cases e
      | own d =>
        cases e
        obtain ⟨a, h1, h2, h3, h4, h5⟩ := S.own i _ q
        exact ⟨a, h1, h2, h3, h4, fun o c' r => S.mut_own q h1 r⟩
      | inp d =>
        cases e
        obtain ⟨a, h1, h2, h3⟩ := S.inp i _ q
        obtain ⟨n1, n2, _⟩ := S.iot a h1
        exact ⟨a, h2, n1, n2, h3, fun o c' r => S.mut_inp q h2 r⟩
/-- x.append(e) -/
def sApp (i : Nat) (d : DE) : DS := fun ρ => (d ρ).toOut fun y ρ => match slotM ρ i with
  | some (.lst xs) => if xs.length < LIM then .nx (putM ρ i (.lst (xs ++ [y]))) else .stuck
  | _ => .stuck
/-- the slot's object is a list ahead of it -/
def isLstM (ρ : Rho) (i : Nat) : Bool := match slotM ρ i with
  | some (.lst _) => true
  | _ => false
def sApp' (i : Nat) (d : DE) : DS := fun ρ => if isLstM ρ i = true then sApp i d ρ else .stuck
theorem own_lst {G H : Hp} {p : Addr} {xs : List PV} (h : Own F G H p (.lst xs)) : ∃ vs, H p = some (.lst vs) ∧ Reps F G xs vs := by
  cases h with
  | lst h r => exact ⟨_, h, r⟩
theorem lstM_at {ρ : Rho} {i : Nat} (h : isLstM ρ i = true) : ∃ xs, slotM ρ i = some (.lst xs) := by
  unfold isLstM at h
  split at h
  · rename_i xs q
    exact ⟨xs, q⟩
  · cases h
theorem st_app {i : Nat} {x : Str} {d : DE} {p1 apos cpos : Pos} (hv : PE X (.Name x p1) (tVar i)) (h : PE X e (tE F io W d)) (hs : swapsWith (.Call (.Attribute (.Name x p1) "append" apos) [e] [] cpos) none pos.line X.env = pure false := by rfl)
    (hbase : attributeBase (.Name x p1) "append" X.env (eval (.Name x p1) X.env) = eval (.Name x p1) X.env := by rfl)
    (hfew : ((backTo cpos (starEach [e] X.env)).all (fun x => !x.1) && (backToKw cpos (keywordEach [] X.env)).all (fun x => x.1.isSome)
      && decide ([e].length + ([] : List Keyword).length + (if ([] : List Keyword).isEmpty then 0 else 1) < 30)) = true := by rfl)
    (hline : (apos.endLine == cpos.line) = true := by rfl) (hst : starEach [e] X.env = (false, eval e X.env) :: starEach [] X.env := by rfl) (hplain : (backTo cpos (starEach [] X.env)).any (·.1) = false := by rfl) :
    PS X (.Expr (.Call (.Attribute (.Name x p1) "append" apos) [e] [] cpos) pos) (tS F io W (sApp' i d)) := by
  refine (ps_expr (pe_bm PySem.F.plainAttrs_list PySem.F.slot_list_append PySem.F.type_list_append mt_append hv (pa_cons h pa_nil hst) hbase hfew hline hst hplain) hs).imp fun D σ H ⟨G, Fr, ρ, S, q⟩ => ?_
  unfold sApp' at q
  by_cases l : isLstM ρ i = true
  · rw [if_pos l] at q
    obtain ⟨xs, em⟩ := lstM_at l
    obtain ⟨p, h1, h2, h3, h4, _⟩ := slotM_at S em
    obtain ⟨vs, g1, g2⟩ := own_lst h4
    refine ⟨.ref p, h1, .inl ⟨rfl, vs, .of g1⟩, ?_⟩
    unfold sApp at q
    refine tD.stepS S q fun u H1 G1 ρ1 y e1 S1 r1 q1 => ?_
    cases em1 : slotM ρ1 i with
    | none => rw [em1] at q1; exact q1.elim
    | some c =>
      rw [em1] at q1
      cases c <;> first | exact q1.elim | skip
      case lst ys =>
        obtain ⟨p', k1, k2, k3, k4, k5⟩ := slotM_at S1 em1
        rw [h1] at k1
        cases k1
        obtain ⟨vs', g1', g2'⟩ := own_lst k4
        have q1 : PostS F io W Fr G1 D (if ys.length < LIM then .nx (putM ρ1 i (.lst (ys ++ [y]))) else .stuck) := q1
        by_cases ll : ys.length < LIM
        · rw [if_pos ll] at q1
          refine ⟨p, vs', u, rfl, rfl, g1', ?_, ?_⟩
          · rw [← g2'.length]
            exact Nat.lt_trans ll (by decide)
          · exact PostS.next q1 (k5 _ _ (.lst upd_same (g2'.append (.cons r1 .nil))))
        · rw [if_neg ll] at q1
          exact q1.elim
  · rw [if_neg l] at q
    exact q.elim
/-- x[i] = e of a list of one's own -/
def sPut (i : Nat) (d di : DE) : DS := fun ρ => (d ρ).toOut fun y ρ => if isLstM ρ i = true then (di ρ).toOut fun k ρ => (match slotM ρ i, k with
    | some (.lst xs), .int j => (match ixN xs.length j with
      | some m => .nx (putM ρ i (.lst (xs.set m y)))
      | none => .stuck)
    | _, _ => .stuck) else .stuck
theorem st_put {i : Nat} {x : Str} {d di : DE} {p1 p2 : Pos} {ix : Expr} (hv : PE X (.Name x p1) (tVar i)) (h : PE X e (tE F io W d)) (hi : PE X ix (tE F io W di)) (hs : swapsWithSole [.Subscript (.Name x p1) ix p2] e pos.line X.env = pure false := by rfl) (hw : swappedStores [.Subscript (.Name x p1) ix p2] e X.env = pure none := by rfl)
    (h1 : (assignEach [.Subscript (.Name x p1) ix p2] X.env).map (·.2) = [assign (.Subscript (.Name x p1) ix p2) X.env] := by rfl)
    (ha : ∀ v, assign (.Subscript (.Name x p1) ix p2) X.env v = (do
      let ov ← holding [v] (eval (.Name x p1) X.env)
      let iv ← holding [v, ov] (eval ix X.env)
      standAt p2
      holding [v, ov, iv] (setItem ov iv v)
      release [v, ov, iv] []) := by intro _; rfl) : PS X (.Assign [.Subscript (.Name x p1) ix p2] e pos) (tS F io W (sPut i d di)) := by
  refine (ps_asg h (pg_sub hv hi set_list ha) hs hw h1).imp fun D σ H ⟨G, Fr, ρ, S, q⟩ => ?_
  refine tD.stepS S q fun u H1 G1 ρ1 y e1 S1 r1 q1 => ?_
  by_cases l : isLstM ρ1 i = true
  · rw [if_pos l] at q1
    obtain ⟨xs, em⟩ := lstM_at l
    obtain ⟨p, h1, h2, h3, h4, _⟩ := slotM_at S1 em
    refine ⟨.ref p, h1, ?_⟩
    refine tD.stepS S1 q1 fun iv H2 G2 ρ2 k e2 S2 r2 q2 => ?_
    cases em1 : slotM ρ2 i with
    | none => rw [em1] at q2; exact q2.elim
    | some c =>
      rw [em1] at q2
      cases c <;> first | exact q2.elim | skip
      case lst ys =>
        cases r2 <;> first | exact q2.elim | skip
        case int j =>
          have q2 : PostS F io W Fr G2 D (match ixN ys.length j with
            | some m => .nx (putM ρ2 i (.lst (ys.set m y)))
            | none => .stuck) := q2
          cases ej : ixN ys.length j with
          | none => rw [ej] at q2; exact q2.elim
          | some m =>
            rw [ej] at q2
            obtain ⟨p', k1, k2, k3, k4, k5⟩ := slotM_at S2 em1
            rw [h1] at k1
            cases k1
            obtain ⟨vs, g1, g2⟩ := own_lst k4
            exact ⟨p, vs, j, m, rfl, rfl, g1, by rw [← g2.length]; exact ej, PostS.next q2 (k5 _ _ (.lst upd_same (g2.set (r1.same e2) m)))⟩
  · rw [if_neg l] at q1
    exact q1.elim
/-- x[e] of a list of one's own: read -/
def dIxM (i : Nat) (di : DE) : DE := fun ρ => if isLstM ρ i = true then (di ρ).bind fun k ρ => (match slotM ρ i with
    | some (.lst xs) => ofO (pIx (.lst xs) k) ρ
    | _ => .stuck) else .stuck
theorem pp_ixM {i : Nat} {x : Str} {di : DE} {p1 : Pos} {ix : Expr} (hK : F.K = X.K) (hv : PE X (.Name x p1) (tVar i)) (hi : PE X ix (tE F io W di)) (hs : PlainIx ix := by intro _ _; rfl) : PE X (.Subscript (.Name x p1) ix pos) (tE F io W (dIxM i di)) := by
  refine (pe_ix ix_list hv hi hs).imp fun σ H Q ⟨G, Fr, ρ, S, q⟩ => ?_
  unfold dIxM at q
  by_cases l : isLstM ρ i = true
  · rw [if_pos l] at q
    obtain ⟨xs, em⟩ := lstM_at l
    obtain ⟨p, h1, h2, h3, h4, _⟩ := slotM_at S em
    refine ⟨.ref p, h1, ?_⟩
    refine tD.step S q fun iv H2 G2 ρ2 k e2 S2 r2 q2 => ?_
    cases em1 : slotM ρ2 i with
    | none => rw [em1] at q2; exact q2.elim
    | some c =>
      rw [em1] at q2
      cases c <;> first | exact q2.elim | skip
      case lst ys =>
        obtain ⟨z, hz, kk⟩ := Post.ofO (γ := Unit) q2 S2
        obtain ⟨p', k1, k2, k3, k4, k5⟩ := slotM_at S2 em1
        rw [h1] at k1
        cases k1
        obtain ⟨vs, g1, g2⟩ := own_lst k4
        cases r2 <;> first | (exfalso; cases hz; done) | skip
        case int j =>
          obtain ⟨v, h1, h2⟩ := atI_rep g2 hz
          exact ⟨_, _, _, _, rfl, rfl, .of g1, h1, kk _ G2 H2 (Grow.refl S2.sub) h2⟩
  · rw [if_neg l] at q
    exact q.elim
/-- an object of one's own is handed on as a value: from now on it stands still -/
def dFz (i : Nat) : DE := fun ρ => match ρ[i]? with
  | some (some (.own c)) => .ok c (ρ.set i (some (.val c)))
  | _ => .stuck
/-- an object of one's own stands still from now on -/
theorem StOk.freeze {G Fr H : Hp} {σ : L2.St} {ρ : Rho} {i : Nat} {c : PV} {a : Addr} {o' : HO} (S : StOk F io G Fr H σ ρ) (e : ρ[i]? = some (some (.own c))) (h1 : σ[i]? = some (some (V.ref a))) (h2 : G a = none) (h3 : Fr a = none) (h5 : io ≠ some a) (rep : Rep F (upd G a o') c (.ref a)) :
    StOk F io (upd G a o') Fr (upd H a o') σ (ρ.set i (some (.val c))) := by
  have sD : Same G (upd G a o') := same_upd h2
  have k : ∀ b u, b ≠ a → H b = some u → upd H a o' b = some u := fun b u n h => by rw [upd_ne n]; exact h
  refine ⟨fun b u h => ?_, fun b u h => k b u (ne_of_none h h3) (S.fsub b u h), fun b u h => ?_, by rw [List.length_set]; exact S.len, fun j p ej => ?_, fun j d ej => ?_, fun j l d d' b ej el s1 s2 => ?_, fun b eb => ?_, fun j d ej => ?_, fun j l d d' ej el => ?_⟩
  · by_cases z : b = a
    · subst z
      rw [upd_same] at h
      cases h
      exact upd_same
    · rw [upd_ne z] at h
      exact k b u z (S.sub b u h)
  · by_cases z : b = a
    · subst z
      exact h3
    · rw [upd_ne z] at h
      exact S.dis b u h
  · rcases slot_set ej with ⟨rfl, z⟩ | ⟨n, z⟩
    · injection z with z
      subst z
      exact ⟨.ref a, h1, rep⟩
    · obtain ⟨v, g1, g2⟩ := S.val j p z
      exact ⟨v, g1, g2.same sD⟩
  · rcases slot_set ej with ⟨rfl, z⟩ | ⟨n, z⟩
    · cases z
    · obtain ⟨b, g1, g2, g3, g4, g5⟩ := S.own j d z
      have nb : b ≠ a := fun w => n (S.sep i j c d a e z h1 (by rw [← w]; exact g1))
      refine ⟨b, g1, ?_, g3, g4.same sD fun u hu => k b u nb hu, g5⟩
      rw [upd_ne nb]
      exact g2
  · rcases slot_set ej with ⟨rfl, z⟩ | ⟨n, z⟩
    · cases z
    · rcases slot_set el with ⟨rfl, z2⟩ | ⟨n2, z2⟩
      · cases z2
      · exact S.sep j l d d' b z z2 s1 s2
  · obtain ⟨g1, g2, u, g3⟩ := S.iot b eb
    have nb : b ≠ a := fun w => h5 (by rw [← w]; exact eb)
    refine ⟨?_, g2, u, k b u nb g3⟩
    rw [upd_ne nb]
    exact g1
  · rcases slot_set ej with ⟨rfl, z⟩ | ⟨n, z⟩
    · cases z
    · obtain ⟨b, g1, g2, g3⟩ := S.inp j d z
      exact ⟨b, g1, g2, g3.same sD fun u hu => k b u (fun w => h5 (by rw [← w]; exact g1)) hu⟩
  · rcases slot_set ej with ⟨rfl, z⟩ | ⟨n, z⟩
    · cases z
    · rcases slot_set el with ⟨rfl, z2⟩ | ⟨n2, z2⟩
      · cases z2
      · exact S.one j l d d' z z2
theorem upd_self {H : Hp} {a : Addr} {o : HO} (h : H a = some o) : upd H a o = H := by
  funext b
  by_cases z : b = a
  · subst z
    rw [upd_same, h]
  · rw [upd_ne z]
/-- what is known of an object of one's own may be told of it -/
theorem lock_own {pins : List (Addr × Obj)} {σ : L2.St} {G H : Hp} {s : Shared} {a : Addr} {c : PV} {o : HO} (I : L2.Inv X pins σ H s) (h : Own F G H a c) (ho : H a = some o) : ∃ ob, L2.Inv X pins σ (upd H a (frzHO c o ob)) s := by
  cases c with
  | dct ks vs =>
    cases h with
    | dT h q n b u r =>
      obtain ⟨od, I1⟩ := I.lock ho (by rw [ho] at h; cases h; exact trivial)
      exact ⟨od, I1⟩
  | _ => exact ⟨⟨.none, none, .fields #[], #[]⟩, by rw [show frzHO _ o _ = o from rfl, upd_self ho]; exact I⟩
theorem pp_fz {i : Nat} {x : Str} (hv : PE X (.Name x pos) (tVar i)) : PE X (.Name x pos) (tE F io W (dFz i)) := by
  refine ⟨fun pins s σ H Q I ⟨G, Fr, ρ, S, q⟩ => ?_⟩
  unfold dFz at q
  cases e : ρ[i]? with
  | none => rw [e] at q; exact q.elim
  | some o =>
    cases o with
    | none => rw [e] at q; exact q.elim
    | some sv =>
      cases sv with
      | val => rw [e] at q; exact q.elim
      | inp => rw [e] at q; exact q.elim
      | own c =>
        rw [e] at q
        obtain ⟨a, h1, h2, h3, h4, h5⟩ := S.own i c e
        obtain ⟨o, ho⟩ := h4.there
        obtain ⟨ob, I1⟩ := lock_own I h4 ho
        have sD : Same G (upd G a (frzHO c o ob)) := same_upd h2
        have rep := h4.frozen ho ob sD
        exact hv.run pins s σ _ Q I1 ⟨.ref a, h1, q (.ref a) _ _ sD (S.freeze e h1 h2 h3 h5 rep) rep⟩
end
end Pl

set_option maxHeartbeats 4000000
/-! P7: defs that change what is handed in; defs that hand back a new list; try. -/
namespace Pl
open PySem PySem.Spec PyProof.Rows L2

inductive FRI where
  | ok (p : PV) (c : PV)
  | stuck
/-- the heap behind a call that may change p -/
structure GrowI (p : Addr) (G H G' H' : Hp) : Prop where
  all : ∀ a o, a ≠ p → H a = some o → H' a = some o
  gle : Same G G'
  sub : Same G' H'
  new : ∀ a o, G' a = some o → G a = none → H a = none
/-- a def of n parameters that may change the object at the first one does what φ says -/
def spI (F : Fx) (n : Nat) (φ : PV → List PV → FRI) : Sp := fun vs H Q _ => vs.length = n ∧ ∃ G p c ps vr, vs = .ref p :: vr ∧ Same G H ∧ G p = none ∧ Own F G H p c ∧ Reps F G ps vr ∧ match φ c ps with
  | .ok r c' => ∀ v G' H', GrowI p G H G' H' → Own F G' H' p c' → Rep F G' r v → Q v H'
  | .stuck => False
/-- a def that hands back a new list -/
def spO (F : Fx) (n : Nat) (φ : List PV → Option PV) : Sp := fun vs H Q _ => vs.length = n ∧ ∃ G ps, Same G H ∧ Reps F G ps vs ∧ match φ ps with
  | some c => ∀ p G' H', Grow G H G' H' → H p = none → G' p = none → Own F G' H' p c → Q (.ref p) H'
  | none => False
section
variable {F : Fx} {io : Option Addr} {W : WX} {Fr G G' H H' : Hp} {σ : L2.St} {ρ : Rho}
theorem StOk.thru {i : Nat} {c c' : PV} {p : Addr} (S : StOk F io G Fr H σ ρ) (e : slotM ρ i = some c) (es : σ[i]? = some (some (V.ref p))) (g : GrowI p G H G' H') (r : Own F G' H' p c') : StOk F io G' Fr H' σ (putM ρ i c') := by
  have there : ∃ o, H p = some o := by
    obtain ⟨q, h1, _, _, h4, _⟩ := slotM_at S e
    rw [es] at h1
    cases h1
    exact h4.there
  have z0 : ∀ a, G a = none → (∃ o, H a = some o) → G' a = none := fun a h ⟨o, ho⟩ => by
    cases q : G' a with
    | none => rfl
    | some u =>
      rw [g.new a u q h] at ho
      cases ho
  have nFp : Fr p = none := by
    obtain ⟨q, h1, _, h3, _, _⟩ := slotM_at S e
    rw [es] at h1
    cases h1
    exact h3
  have fs : Same Fr H' := fun b u h => g.all b u (ne_of_none h nFp) (S.fsub b u h)
  have ds : ∀ a o, G' a = some o → Fr a = none := fun a o h => by
    cases q : G a with
    | some u => exact S.dis a u q
    | none => exact S.fsub.free (g.new a o h q)
  unfold slotM at e
  unfold putM
  cases q : ρ[i]? with
  | none => rw [q] at e; cases e
  | some x =>
    rw [q] at e
    cases x with
    | none => cases e
    | some sv =>
      cases sv with
      | val d => cases e
      | own d =>
        cases e
        obtain ⟨a, h1, h2, h3, h4, h5⟩ := S.own i _ q
        rw [es] at h1
        cases h1
        refine ⟨g.sub, fs, ds, by rw [List.length_set]; exact S.len, fun j x ej => ?_, fun j d ej => ?_, fun j l d d' b ej el s1 s2 => ?_, fun b eb => ?_, fun j d ej => ?_, fun j l d d' ej el => ?_⟩
        · rcases slot_set ej with ⟨_, z⟩ | ⟨n, z⟩
          · cases z
          · obtain ⟨v, g1, g2⟩ := S.val j x z
            exact ⟨v, g1, g2.same g.gle⟩
        · rcases slot_set ej with ⟨rfl, z⟩ | ⟨n, z⟩
          · injection z with z
            subst z
            exact ⟨p, es, z0 p h2 there, h3, r, h5⟩
          · obtain ⟨b, g1, g2, g3, g4, g5⟩ := S.own j d z
            refine ⟨b, g1, z0 b g2 g4.there, g3, g4.same g.gle fun u hu => g.all b u (fun w => ?_) hu, g5⟩
            subst w
            exact n (S.sep i j _ d b q z es g1)
        · have old : ∀ j d, (ρ.set i (some (.own c')))[j]? = some (some (SV.own d)) → ∃ d', ρ[j]? = some (some (SV.own d')) := fun j d h => by
            rcases slot_set h with ⟨rfl, _⟩ | ⟨_, z⟩
            · exact ⟨_, q⟩
            · exact ⟨d, z⟩
          obtain ⟨d1, z1⟩ := old j d ej
          obtain ⟨d2, z2⟩ := old l d' el
          exact S.sep j l d1 d2 b z1 z2 s1 s2
        · obtain ⟨g1, g2, u, g3⟩ := S.iot b eb
          exact ⟨z0 b g1 ⟨u, g3⟩, g2, u, g.all b u (fun w => h5 (by rw [← w]; exact eb)) g3⟩
        · rcases slot_set ej with ⟨_, z⟩ | ⟨n, z⟩
          · cases z
          · obtain ⟨b, g1, g2, g3⟩ := S.inp j d z
            exact ⟨b, g1, g2, g3.same g.gle fun u hu => g.all b u (fun w => h5 (by rw [← w]; exact g1)) hu⟩
        · rcases slot_set ej with ⟨_, z⟩ | ⟨n, z⟩
          · cases z
          · rcases slot_set el with ⟨_, z2⟩ | ⟨n2, z2⟩
            · cases z2
            · exact S.one j l d d' z z2
      | inp d =>
        cases e
        obtain ⟨a, h1, h2, h3⟩ := S.inp i _ q
        rw [es] at h2
        cases h2
        obtain ⟨n1, n2, o1, n3⟩ := S.iot p h1
        refine ⟨g.sub, fs, ds, by rw [List.length_set]; exact S.len, fun j x ej => ?_, fun j d ej => ?_, fun j l d d' b ej el s1 s2 => ?_, fun b eb => ?_, fun j d ej => ?_, fun j l d d' ej el => ?_⟩
        · rcases slot_set ej with ⟨_, z⟩ | ⟨n, z⟩
          · cases z
          · obtain ⟨v, g1, g2⟩ := S.val j x z
            exact ⟨v, g1, g2.same g.gle⟩
        · rcases slot_set ej with ⟨_, z⟩ | ⟨n, z⟩
          · cases z
          · obtain ⟨b, g1, g2, g3, g4, g5⟩ := S.own j d z
            exact ⟨b, g1, z0 b g2 g4.there, g3, g4.same g.gle fun u hu => g.all b u (fun w => g5 (by rw [w]; exact h1)) hu, g5⟩
        · rcases slot_set ej with ⟨_, z⟩ | ⟨n, z⟩
          · cases z
          · rcases slot_set el with ⟨_, z2⟩ | ⟨n2, z2⟩
            · cases z2
            · exact S.sep j l d d' b z z2 s1 s2
        · obtain ⟨g1, g2, u, g3⟩ := S.iot b eb
          rw [h1] at eb
          cases eb
          exact ⟨z0 p g1 ⟨u, g3⟩, g2, r.there⟩
        · rcases slot_set ej with ⟨rfl, z⟩ | ⟨n, z⟩
          · injection z with z
            subst z
            exact ⟨p, h1, es, r⟩
          · exact absurd (S.one i j _ d q z) n
        · have old : ∀ j d, (ρ.set i (some (.inp c')))[j]? = some (some (SV.inp d)) → ∃ d', ρ[j]? = some (some (SV.inp d')) := fun j d h => by
            rcases slot_set h with ⟨rfl, _⟩ | ⟨_, z⟩
            · exact ⟨_, q⟩
            · exact ⟨d, z⟩
          obtain ⟨d1, z1⟩ := old j d ej
          obtain ⟨d2, z2⟩ := old l d' el
          exact S.one j l d1 d2 z1 z2
end
section
variable {X : Cx} {F : Fx} {io : Option Addr} {W : WX} {a b e : Expr} {es : List Expr} {pos : Pos}
/-- f(x, ..) where f may change the object at slot i -/
def dCallI (i : Nat) (φ : PV → List PV → FRI) (d : DD (List PV)) : DE := fun ρ => if (slotM ρ i).isSome = true then (d ρ).bind fun xs ρ => (match slotM ρ i with
    | some c => (match φ c xs with
      | .ok r c' => .ok r (putM ρ i c')
      | .stuck => .stuck)
    | none => .stuck) else .stuck
theorem pp_callI {k : Nat} {f : Addr} {fd : FuncData} {ps : List Str} {φ : PV → List PV → FRI} {x : Str} {p p1 : Pos} {i : Nat} {y : Str} {d : DD (List PV)} (n : Nat) (tk : Takes X W) (G : FnG X.prog X.w X.K X.mg X.base (CX X.prog X.w) k f fd ps (spI F (n + 1) φ)) (hr : RoomG k X.A) (hm : X.mg x = some (.ref f))
    (hk : PySem.W.keepIn X.K (.ref f) = true) (hb : Binds X.K fd ps []) (hg : Gl X x) (hv : PE X (.Name y p1) (tVar i)) (ha : PA X es (tA F io W d)) [L : LenA d n] (hdb : (x == ("__debug__" : Str)) = false := by decide)
    (he : starEach (.Name y p1 :: es) X.env = (false, eval (.Name y p1) X.env) :: starEach es X.env := by rfl) (hpl : (backTo pos (starEach es X.env)).any (·.1) = false := by rfl) :
    PE X (.Call (.Name x p) (.Name y p1 :: es) [] pos) (tE F io W (dCallI i φ d)) := by
  refine (pe_callG (E := fun σ => WE W σ) G hr hg hm hk hb (fun σ => passAt tk σ) (pa_cons hv ha he) hdb he hpl).imp fun σ H Q ⟨G, Fr, ρ, S, q⟩ => ?_
  unfold dCallI at q
  by_cases hi : (slotM ρ i).isSome = true
  · rw [if_pos hi] at q
    obtain ⟨c0, ec0⟩ := Option.isSome_iff_exists.mp hi
    obtain ⟨p0, h1, _, _, _, _⟩ := slotM_at S ec0
    refine ⟨.ref p0, h1, ?_⟩
    refine ⟨G, Fr, ρ, S, ?_⟩
    cases ed : d ρ with
    | stuck => rw [ed] at q; exact q
    | exc c as ρ1 => rw [ed] at q; exact q
    | ok xs ρ1 =>
      rw [ed] at q
      intro vs G1 H1 e1 S1 r1
      cases em : slotM ρ1 i with
      | none =>
        have q : Post (Rep F) F io W Fr G σ Q (match slotM ρ1 i with
          | some c => (match φ c xs with
            | .ok r c' => .ok r (putM ρ1 i c')
            | .stuck => .stuck)
          | none => .stuck) := q
        rw [em] at q
        exact q.elim
      | some c =>
        have q : Post (Rep F) F io W Fr G σ Q (match slotM ρ1 i with
          | some c => (match φ c xs with
            | .ok r c' => .ok r (putM ρ1 i c')
            | .stuck => .stuck)
          | none => .stuck) := q
        rw [em] at q
        obtain ⟨p1, k1, k2, k3, k4, k5⟩ := slotM_at S1 em
        rw [h1] at k1
        cases k1
        refine ⟨by rw [List.length_cons, ← r1.length]; exact congrArg (· + 1) (L.len _ _ _ ed), G1, p0, c, xs, vs, rfl, S1.sub, k2, k4, r1, ?_⟩
        dsimp only at q
        cases ef : φ c xs with
        | ok r c' =>
          rw [ef] at q
          exact fun v G2 H2 g o r2 => q v G2 H2 (e1.trans g.gle) (S1.thru em h1 g o) r2
        | stuck => rw [ef] at q; exact q
  · rw [if_neg hi] at q
    exact q.elim
def runI (n : Nat) (d : DS) (c : PV) (ps : List PV) : FRI := match d (some (.inp c) :: ps.map (fun p => some (.val p)) ++ List.replicate (n - (ps.length + 1)) none) with
  | .rt p ρ => (match (ρ[(0 : Nat)]? : Option (Option SV)) with
    | some (some (SV.inp c')) => .ok p c'
    | _ => .stuck)
  | .nx ρ => (match (ρ[(0 : Nat)]? : Option (Option SV)) with
    | some (some (SV.inp c')) => .ok .non c'
    | _ => .stuck)
  | _ => .stuck
theorem startI_ok {G H : Hp} {N : List Str} {ps : List PV} {vs : List V} {p : Addr} {c : PV} (s : Same G H) (np : G p = none) (o : Own F G H p c) (r : Reps F G ps vs) :
    StOk F (some p) G (fun a => if (G a).isSome = true ∨ a = p then none else H a) H (L2.start N (.ref p :: vs)) (some (.inp c) :: ps.map (fun p => some (.val p)) ++ List.replicate (N.length - (ps.length + 1)) none) := by
  have no : ∀ (i : Nat) (sv : SV), (some (SV.inp c) :: ps.map (fun p => some (SV.val p)) ++ List.replicate (N.length - (ps.length + 1)) none)[i]? = some (some sv) → (i = 0 ∧ sv = .inp c) ∨ ∃ j p, i = j + 1 ∧ sv = .val p ∧ ps[j]? = some p := fun i sv e => by
    cases i with
    | zero => exact .inl ⟨rfl, (Option.some.inj (Option.some.inj e)).symm⟩
    | succ i =>
      have e : (ps.map (fun p => some (SV.val p)) ++ List.replicate (N.length - (ps.length + 1)) none)[i]? = some (some sv) := e
      by_cases l : i < ps.length
      · rw [List.getElem?_append_left (by simpa using l), List.getElem?_map] at e
        cases q : ps[i]? with
        | none => rw [q] at e; cases e
        | some p => rw [q] at e; cases e; exact .inr ⟨i, p, rfl, rfl, q⟩
      · rw [List.getElem?_append_right (by simpa using l), List.getElem?_replicate] at e
        split at e <;> cases e
  refine ⟨s, fun a u e => ?_, fun a u e => by simp [e], ?_, fun i x e => ?_, fun i d e => ?_, fun i j d d' b e => ?_, fun a e => ?_, fun i d e => ?_, fun i j d d' e e2 => ?_⟩
  · have e : (if (G a).isSome = true ∨ a = p then none else H a) = some u := e
    split at e
    · cases e
    · exact e
  · unfold L2.start
    simp [r.length]
  · rcases no i _ e with ⟨_, z⟩ | ⟨j, x', rfl, z, h⟩
    · cases z
    · cases z
      obtain ⟨v, h1, h2⟩ := r.get h
      refine ⟨v, ?_, h2⟩
      unfold L2.start
      rw [List.map_cons, List.cons_append]
      show (vs.map some ++ _)[j]? = _
      rw [List.getElem?_append_left (by simpa using lt_of_slot (l := vs.map some) (i := j) (y := v) (by rw [List.getElem?_map, h1]; rfl)), List.getElem?_map, h1]
      rfl
  · rcases no i _ e with ⟨_, z⟩ | ⟨j, x', rfl, z, h⟩ <;> cases z
  · rcases no i _ e with ⟨_, z⟩ | ⟨j, x', rfl, z, h⟩ <;> cases z
  · cases e
    exact ⟨np, by simp, o.there⟩
  · rcases no i _ e with ⟨rfl, z⟩ | ⟨j, x', rfl, z, h⟩
    · cases z
      exact ⟨p, rfl, rfl, o⟩
    · cases z
  · rcases no i _ e with ⟨rfl, z⟩ | ⟨j', x', rfl, z, h⟩
    · rcases no j _ e2 with ⟨rfl, z⟩ | ⟨j', x', rfl, z, h⟩
      · rfl
      · cases z
    · cases z
theorem endI_grow {G H G' H' : Hp} {σ : L2.St} {ρ : Rho} {p : Addr} (s : Same G H) (e : Same G G') (S : StOk F (some p) G' (fun a => if (G a).isSome = true ∨ a = p then none else H a) H' σ ρ) (t : ∃ o, H p = some o) : GrowI p G H G' H' := by
  have dis : ∀ a o, G' a = some o → (if (G a).isSome = true ∨ a = p then none else H a) = none := S.dis
  have fsub : ∀ a o, (if (G a).isSome = true ∨ a = p then none else H a) = some o → H' a = some o := S.fsub
  obtain ⟨np, _, _⟩ := S.iot p rfl
  refine ⟨fun a o n h => ?_, e, S.sub, fun a o h h0 => ?_⟩
  · cases q : G a with
    | none => exact fsub a o (by simp [q, h, n])
    | some u =>
      have h1 := s a u q
      rw [h] at h1
      cases h1
      exact S.sub a _ (e a _ q)
  · by_cases z : a = p
    · subst z
      rw [np] at h
      cases h
    · have h1 := dis a o h
      rw [if_neg (by simp [h0, z])] at h1
      exact h1
/-- THE RULE of a def that may change the object at its first parameter -/
theorem fn_inp {P : Program} {w : World} {K : PySem.W.Frag} {mg : Str → Option Value} {base : Heap} {x qual : Str} {params : Arguments} {body : List Stmt} {scope : Scope} {f : Addr} {fd : FuncData} {N ps : List Str} {k : Nat} {d : DS}
    (FD : FunD K x qual params body scope [] [] f fd) (S : FnScope N ps scope)
    (h : ∀ (cdv : Value) (A : Around) (outer : List Env) (s : Shared) (H : Hp) (E : XK) (io : Option Addr), RoomG k (A.deeper (envOfC qual scope s.heap.objs.size f cdv)) →
      PSs (cxOf (L2.CX P w) P w K mg base N qual scope f cdv A outer s H E) body (tS F io (fun cls d _ H => E cls d H) d)) :
    FnG P w K mg base (L2.CX P w) (k + 1) f fd ps (spI F ps.length (runI N.length d)) := by
  refine fun_g FD S (fun vs H Q E q => q.1) fun cdv A outer s H vs Q E hr q => ?_
  obtain ⟨hl, G, p, c, qs, vr, rfl, sub, np, o, r, q⟩ := q
  refine ⟨_, h cdv A outer s H E (some p) hr, ?_⟩
  refine ⟨G, _, _, startI_ok sub np o r, ?_⟩
  unfold runI at q
  cases ed : d (some (.inp c) :: qs.map (fun p => some (.val p)) ++ List.replicate (N.length - (qs.length + 1)) none) with
  | nx ρ =>
    rw [ed] at q
    dsimp only at q
    intro σ' G' H' e S'
    split at q
    · rename_i r2 c2 heq
      split at heq
      · rename_i c3 h0
        injection heq with e1 e2
        subst e1
        subst e2
        obtain ⟨a, h1, h2, h3⟩ := S'.inp 0 _ h0
        cases h1
        exact q .non G' H' (endI_grow sub e S' o.there) h3 .non
      · cases heq
    · exact q.elim
  | rt x ρ =>
    rw [ed] at q
    dsimp only at q
    intro v σ' G' H' e S' r'
    split at q
    · rename_i r2 c2 heq
      split at heq
      · rename_i c3 h0
        injection heq with e1 e2
        subst e1
        subst e2
        obtain ⟨a, h1, h2, h3⟩ := S'.inp 0 _ h0
        cases h1
        exact q v G' H' (endI_grow sub e S' o.there) h3 r'
      · cases heq
    · exact q.elim
  | exc c as ρ => rw [ed] at q; exact q.elim
  | stuck => rw [ed] at q; exact q.elim
/-! ### a def that hands back a new list: return [..] -/
def runO (n : Nat) (d : DD (List PV)) (ps : List PV) : Option PV := match d (ps.map (fun p => some (.val p)) ++ List.replicate (n - ps.length) none) with
  | .ok xs _ => if xs.length ≤ 1000 then some (.lst xs) else none
  | _ => none
theorem fn_own {P : Program} {w : World} {K : PySem.W.Frag} {mg : Str → Option Value} {base : Heap} {x qual : Str} {params : Arguments} {es : List Expr} {p1 p2 : Pos} {scope : Scope} {f : Addr} {fd : FuncData} {N ps : List Str} {k : Nat} {d : DD (List PV)}
    (FD : FunD K x qual params [.Return (some (.List es p1)) p2] scope [] [] f fd) (S : FnScope N ps scope)
    (h : ∀ (cdv : Value) (A : Around) (outer : List Env) (s : Shared) (H : Hp) (E : XK), RoomG k (A.deeper (envOfC qual scope s.heap.objs.size f cdv)) →
      PA (cxOf (L2.CX P w) P w K mg base N qual scope f cdv A outer s H E) es (tA F none (fun cls d _ H => E cls d H) d)) :
    FnG P w K mg base (L2.CX P w) (k + 1) f fd ps (spO F ps.length (runO N.length d)) := by
  refine fun_g FD S (fun vs H Q E q => q.1) fun cdv A outer s H vs Q E hr q => ⟨_, pss_one (ps_ret (pe_lst (h cdv A outer s H E hr))), ?_⟩
  obtain ⟨hl, G, qs, sub, r, q⟩ := q
  refine ⟨G, _, _, start_ok sub r, ?_⟩
  unfold runO at q
  cases ed : d (qs.map (fun p => some (.val p)) ++ List.replicate (N.length - qs.length) none) with
  | ok xs ρ =>
    rw [ed] at q
    intro us G' H' e S' r'
    dsimp only at q
    by_cases l : xs.length ≤ 1000
    · rw [if_pos l] at q
      refine ⟨by rw [← r'.length]; exact line1000 l, fun p n => ?_⟩
      have g := end_grow sub e S'
      have g2 : Grow G H G' (upd H' p (.lst us)) := ⟨g.all.trans (same_upd n), g.gle, S'.sub.trans (same_upd n), g.new⟩
      exact q p G' _ g2 (g.all.free n) (S'.sub.free n) (.lst upd_same r')
    · rw [if_neg l] at q
      exact q.elim
  | exc c as ρ => rw [ed] at q; exact q.elim
  | stuck => rw [ed] at q; exact q.elim
/-- x = f(..), f hands back a new list -/
def sCallO (i : Nat) (φ : List PV → Option PV) (d : DD (List PV)) : DS := fun ρ => (d ρ).toOut fun xs ρ => match φ xs with
  | some c => .nx (ρ.set i (some (.own c)))
  | none => .stuck
theorem st_callO {k : Nat} {f : Addr} {fd : FuncData} {ps : List Str} {φ : List PV → Option PV} {x y : Str} {p py : Pos} {i : Nat} {d : DD (List PV)} (n : Nat) (tk : Takes X W) (G : FnG X.prog X.w X.K X.mg X.base (CX X.prog X.w) k f fd ps (spO F n φ)) (hr : RoomG k X.A) (hm : X.mg x = some (.ref f))
    (hk : PySem.W.keepIn X.K (.ref f) = true) (hb : Binds X.K fd ps []) (hN : X.N.Nodup) (hi : X.N[i]? = some y) (hy : Loc X.env.scope y) (hg : Gl X x) (ha : PA X (e :: es) (tA F io W d)) [L : LenA d n] (hdb : (x == ("__debug__" : Str)) = false := by decide)
    (he : starEach (e :: es) X.env = (false, eval e X.env) :: starEach es X.env := by rfl) (hpl : (backTo pos (starEach es X.env)).any (·.1) = false := by rfl) {pos2 : Pos} (hs : swapsWith (.Call (.Name x p) (e :: es) [] pos) (some (.Name y py)) pos2.line X.env = pure false := by rfl)
    (hf : X.fn y = true ∨ X.env.scope.names.lookup y = some .local := by first | exact .inl rfl | exact .inr rfl | assumption) :
    PS X (.Assign [.Name y py] (.Call (.Name x p) (e :: es) [] pos) pos2) (tS F io W (sCallO i φ d)) := by
  refine (ps_set hN hi hy (pe_callG (E := fun σ => WE W σ) G hr hg hm hk hb (fun σ => passAt tk σ) ha hdb he hpl) hs hf).imp fun D σ H ⟨G, Fr, ρ, S, q⟩ => ?_
  refine ⟨G, Fr, ρ, S, ?_⟩
  have q : PostS F io W Fr G D ((d ρ).toOut fun xs ρ => match φ xs with
    | some c => .nx (ρ.set i (some (.own c)))
    | none => .stuck) := q
  cases ed : d ρ with
  | stuck => rw [ed] at q; exact q
  | exc c as ρ1 => rw [ed] at q; exact fun dd G1 H1 e1 S1 x1 => q dd σ G1 H1 e1 S1 x1
  | ok xs ρ1 =>
    rw [ed] at q
    intro vs G1 H1 e1 S1 r1
    refine ⟨by rw [← r1.length]; exact L.len _ _ _ ed, G1, xs, S1.sub, r1, ?_⟩
    have q : PostS F io W Fr G D (match φ xs with
      | some c => .nx (ρ1.set i (some (.own c)))
      | none => .stuck) := q
    cases ef : φ xs with
    | some c =>
      rw [ef] at q
      intro a G2 H2 g na nG o
      refine PostS.next (PostS.gle (e1.trans g.gle) q) ((S1.grow g).take_own nG (S1.fsub.free na) (fun ee => ?_) (fun j c2 ej es2 => ?_) o)
      · obtain ⟨_, _, u, hu⟩ := S1.iot a ee
        rw [na] at hu
        cases hu
      · obtain ⟨b, h1, _, _, h4, _⟩ := S1.own j c2 ej
        rw [es2] at h1
        cases h1
        obtain ⟨u, hu⟩ := h4.there
        rw [na] at hu
        cases hu
    | none => rw [ef] at q; exact q.elim

/-! ### try: .. except X: .. except Y: .. -/
def hndl (sub : Nat → Nat → Bool) : List (Nat × DS) → Nat → List PV → Rho → Out
  | [], c, as, ρ => .exc c as ρ
  | (k, d) :: r, c, as, ρ => if sub c k = true then (match d ρ with
      | .nx ρ => .nx ρ
      | .rt p ρ => .rt p ρ
      | _ => .stuck) else hndl sub r c as ρ
def sTry (n : List Nat) (sub : Nat → Nat → Bool) (d : DS) (hs : List (Nat × DS)) : DS := fun ρ => match d ρ with
  | .exc c as ρ' => if n.contains c = true then hndl sub hs c as ρ' else .stuck
  | o => o
/-- which classes are under which -/
def SubOk (F : Fx) (n : List Nat) (sub : Nat → Nat → Bool) : Prop := ∀ c k, n.contains c = true → n.contains k = true → PySem.W.exmOne F.K (.ref (F.cls c)) (.ref (F.cls k)) = some (sub c k)
def hvals (F : Fx) (io : Option Addr) : List (Nat × DS) → List (Value × (Addr → Value → Option Addr → TS))
  | [] => []
  | (c, d) :: r => (.ref (F.cls c), fun _ _ _ => tS F io W0 d) :: hvals F io r
theorem hndl_ok {n : List Nat} {sub : Nat → Nat → Bool} {K : PySem.W.Frag} {Fr G H : Hp} {σ : L2.St} {ρ : Rho} {D : Ends} {c : Nat} {as : List PV} {dd : Option Addr} (hK : F.K = K) (hsub : SubOk F n sub) (hc : n.contains c = true) (S : StOk F io G Fr H σ ρ) (xa : ExcAt F G H c as dd) : ∀ {hs : List (Nat × DS)}, (∀ h ∈ hs, n.contains h.1 = true) →
    PostS F io W Fr G D (hndl sub hs c as ρ) → wMany K W D (hvals F io hs) (.ref (F.cls c)) dd σ H
  | [], _, q => q dd σ G H (Same.refl _) S xa
  | (k, d) :: r, hk, q => by
    refine ⟨sub c k, by rw [← hK]; exact hsub c k hc (hk _ List.mem_cons_self), fun e a na => ?_, fun e => ?_⟩
    · have q : PostS F io W Fr G D (if sub c k = true then (match d ρ with
        | .nx ρ => .nx ρ
        | .rt p ρ => .rt p ρ
        | _ => .stuck) else hndl sub r c as ρ) := q
      rw [if_pos e] at q
      refine ⟨G, Fr, ρ, S, ?_⟩
      show PostS F io W0 Fr G D (d ρ)
      cases ed : d ρ with
      | nx ρ1 => rw [ed] at q; exact q
      | rt p ρ1 => rw [ed] at q; exact q
      | exc c as ρ1 => rw [ed] at q; exact q.elim
      | stuck => rw [ed] at q; exact q.elim
    · have q : PostS F io W Fr G D (if sub c k = true then (match d ρ with
        | .nx ρ => .nx ρ
        | .rt p ρ => .rt p ρ
        | _ => .stuck) else hndl sub r c as ρ) := q
      rw [if_neg (by rw [e]; exact Bool.false_ne_true)] at q
      exact hndl_ok hK hsub hc S xa (fun h hh => hk h (List.mem_cons_of_mem _ hh)) q
theorem try_step {n : List Nat} {sub : Nat → Nat → Bool} {K : PySem.W.Frag} {d : DS} {hs : List (Nat × DS)} (hK : F.K = K) (hsub : SubOk F n sub) (hk : ∀ h ∈ hs, n.contains h.1 = true) {D : Ends} {σ : L2.St} {H : Hp} (h : tS F io W (sTry n sub d hs) D σ H) : tS F io (wMany K W D (hvals F io hs)) d D σ H := by
  obtain ⟨G, Fr, ρ, S, q⟩ := h
  refine ⟨G, Fr, ρ, S, ?_⟩
  unfold sTry at q
  cases ed : d ρ with
  | nx ρ1 => rw [ed] at q; exact q
  | rt p ρ1 => rw [ed] at q; exact q
  | stuck => rw [ed] at q; exact q
  | exc c as ρ1 =>
    rw [ed] at q
    have q : PostS F io W Fr G D (if n.contains c = true then hndl sub hs c as ρ1 else .stuck) := q
    by_cases l : n.contains c = true
    · rw [if_pos l] at q
      exact fun dd σ' G' H' e S' xa => hndl_ok hK hsub l S' xa hk (PostS.gle e q)
    · rw [if_neg l] at q
      exact q.elim
theorem st_try {n : List Nat} {sub : Nat → Nat → Bool} {body : List Stmt} {h₀ : ExceptHandler} {hds : List ExceptHandler} {d : DS} {hs : List (Nat × DS)} (hK : F.K = X.K) (hsub : SubOk F n sub) (hk : (hs.all fun h => n.contains h.1) = true) (hst : X.stack = X.env :: X.outer) (hf : X.env.frame = some X.env.locals) (tk : Takes X W)
    (hb : ∀ (W : WX) (pn : List (Addr × Obj)) (xe : Value → Shared → Prop), Takes (X.tr pn xe) W → PSs (X.tr pn xe) body (tS F io W d)) (hh : HdsOk X (h₀ :: hds) (hvals F io hs)) : PS X (.Try body (h₀ :: hds) [] [] pos) (tS F io W (sTry n sub d hs)) :=
  (ps_try_many (tb := fun W => tS F io W d) hst hf tk (fun W pn xe tk _ => hb W pn xe tk) hh).imp fun D σ H h => try_step hK hsub (fun h m => List.all_eq_true.mp hk h m) h
end
end Pl

set_option maxHeartbeats 4000000
/-! P8: zip, a written dict asked at once, powers, sequences of any kind walked, calls by what is known of a def. -/
namespace Pl
open PySem PySem.Spec PyProof.Rows L2 RZ

/-- a def of the text, as a caller sees it -/
def FnH (P : Program) (w : World) (K : PySem.W.Frag) (mg : Str → Option Value) (base : Heap) (k : Nat) (x : Str) (sp : Sp) : Prop :=
  ∃ f fd ps, mg x = some (.ref f) ∧ PySem.W.keepIn K (.ref f) = true ∧ Binds K fd ps [] ∧ FnG P w K mg base (L2.CX P w) k f fd ps sp
section
variable {X : Cx} {F : Fx} {io : Option Addr} {W : WX} {a b e : Expr} {es : List Expr} {pos : Pos}
theorem _root_.L2.Room.u65 {k : Nat} {A : Around} (r : Room k A) : A.units + 65 < cLine := by have := r.un; omega
theorem pc {k : Nat} {φ : List PV → FR} {x : Str} {p : Pos} {d : DD (List PV)} {n : Nat} [L : LenA d n] (h : FnH X.prog X.w X.K X.mg X.base k x (spP F n φ)) (tk : Takes X W) (hr : RoomG k X.A) (hg : Gl X x) (ha : PA X (e :: es) (tA F io W d)) (hn : (e :: es).length = n := by rfl) (hdb : (x == ("__debug__" : Str)) = false := by decide)
    (he : starEach (e :: es) X.env = (false, eval e X.env) :: starEach es X.env := by rfl) (hpl : (backTo pos (starEach es X.env)).any (·.1) = false := by rfl) : PE X (.Call (.Name x p) (e :: es) [] pos) (tE F io W (dCall φ d)) := by
  obtain ⟨f, fd, ps, hm, hk, hb, G⟩ := h
  refine ⟨fun pins s σ H Q I q => ?_⟩
  refine (pe_callG (E := fun σ => WE W σ) G hr hg hm hk hb (fun σ => passAt tk σ) ha hdb he hpl).run pins s σ H Q I ?_
  obtain ⟨G, Fr, ρ, S, q⟩ := q
  refine ⟨G, Fr, ρ, S, ?_⟩
  have q : Post (Rep F) F io W Fr G σ Q ((d ρ).bind fun xs ρ => match φ xs with
    | .ok r => .ok r ρ
    | .exc c as => .exc c as ρ
    | .stuck => .stuck) := q
  cases ed : d ρ with
  | stuck => rw [ed] at q; exact q
  | exc c as ρ1 => rw [ed] at q; exact q
  | ok xs ρ1 =>
    rw [ed] at q
    intro vs G1 H1 e1 S1 r1
    refine ⟨by rw [← r1.length]; exact L.len _ _ _ ed, G1, xs, S1.sub, r1, ?_⟩
    have q : Post (Rep F) F io W Fr G σ Q (match φ xs with
      | .ok r => .ok r ρ1
      | .exc c as => .exc c as ρ1
      | .stuck => .stuck) := q
    cases ef : φ xs with
    | ok r =>
      rw [ef] at q
      exact fun v G2 H2 g r2 => q v G2 H2 (e1.trans g.gle) (S1.grow g) r2
    | exc c as =>
      rw [ef] at q
      exact fun dd G2 H2 g x2 => q dd G2 H2 (e1.trans g.gle) (S1.grow g) x2
    | stuck => rw [ef] at q; exact q
theorem pci {k : Nat} {φ : PV → List PV → FRI} {x : Str} {p p1 : Pos} {i : Nat} {y : Str} {d : DD (List PV)} {n : Nat} [L : LenA d n] (h : FnH X.prog X.w X.K X.mg X.base k x (spI F (n + 1) φ)) (tk : Takes X W) (hr : RoomG k X.A) (hg : Gl X x) (hv : PE X (.Name y p1) (tVar i)) (ha : PA X es (tA F io W d)) (hdb : (x == ("__debug__" : Str)) = false := by decide)
    (he : starEach (.Name y p1 :: es) X.env = (false, eval (.Name y p1) X.env) :: starEach es X.env := by rfl) (hpl : (backTo pos (starEach es X.env)).any (·.1) = false := by rfl) : PE X (.Call (.Name x p) (.Name y p1 :: es) [] pos) (tE F io W (dCallI i φ d)) := by
  obtain ⟨f, fd, ps, hm, hk, hb, G⟩ := h
  exact pp_callI n tk G hr hm hk hb hg hv ha hdb he hpl
theorem sco {pos2 : Pos} {k : Nat} {φ : List PV → Option PV} {x y : Str} {p py : Pos} {i : Nat} {d : DD (List PV)} {n : Nat} [L : LenA d n] (h : FnH X.prog X.w X.K X.mg X.base k x (spO F n φ)) (tk : Takes X W) (hr : RoomG k X.A) (hN : X.N.Nodup) (hi : X.N[i]? = some y) (hy : Loc X.env.scope y) (hg : Gl X x) (ha : PA X (e :: es) (tA F io W d)) (hdb : (x == ("__debug__" : Str)) = false := by decide)
    (he : starEach (e :: es) X.env = (false, eval e X.env) :: starEach es X.env := by rfl) (hpl : (backTo pos (starEach es X.env)).any (·.1) = false := by rfl) (hs : swapsWith (.Call (.Name x p) (e :: es) [] pos) (some (.Name y py)) pos2.line X.env = pure false := by rfl)
    (hf : X.fn y = true ∨ X.env.scope.names.lookup y = some .local := by first | exact .inl rfl | exact .inr rfl | assumption) : PS X (.Assign [.Name y py] (.Call (.Name x p) (e :: es) [] pos) pos2) (tS F io W (sCallO i φ d)) := by
  obtain ⟨f, fd, ps, hm, hk, hb, G⟩ := h
  exact st_callO n tk G hr hm hk hb hN hi hy hg ha hdb he hpl hs hf

/-- a name whose object may be one's own -/
def dRd (i : Nat) : DE := fun ρ => match ρ[i]? with
  | some (some (.val p)) => .ok p ρ
  | some (some (.own c)) => .ok c (ρ.set i (some (.val c)))
  | _ => .stuck
theorem pp_rd {i : Nat} {x : Str} (hv : PE X (.Name x pos) (tVar i)) : PE X (.Name x pos) (tE F io W (dRd i)) := by
  refine ⟨fun pins s σ H Q I ⟨G, Fr, ρ, S, q⟩ => ?_⟩
  unfold dRd at q
  cases e : ρ[i]? with
  | none => rw [e] at q; exact q.elim
  | some o =>
    cases o with
    | none => rw [e] at q; exact q.elim
    | some sv =>
      cases sv with
      | val p =>
        rw [e] at q
        exact (pp_var (F := F) (io := io) (W := W) hv).run pins s σ H Q I ⟨G, Fr, ρ, S, by unfold dVar; rw [e]; exact q⟩
      | own c =>
        rw [e] at q
        exact (pp_fz (F := F) (io := io) (W := W) hv).run pins s σ H Q I ⟨G, Fr, ρ, S, by unfold dFz; rw [e]; exact q⟩
      | inp c => rw [e] at q; exact q.elim

/-! ### powers -/
def pPow : PV → PV → Option PV
  | .int i, .int j => if 0 ≤ j ∧ j ≤ 1000000 ∧ i.natAbs < 2 ^ 64 then some (.int (i ^ j.toNat)) else none
  | _, _ => none
theorem b_pow : BinOk F (rI CPow fun i j => .int (i ^ j.toNat)) pPow := by
  intro G H v u x y z Q s rx ry e k
  cases rx <;> cases ry <;> first | (exfalso; cases e; done) | skip
  obtain ⟨l, rfl⟩ := ite_some e
  exact ⟨_, _, rfl, rfl, l, k _ G H (Grow.refl s) (.int _)⟩

/-! ### a sequence of any kind, walked -/
def dItS (d : DE) : DD (List PV) := fun ρ => (d ρ).bind fun x ρ => match x with
  | .str x => .ok (signsP x) ρ
  | _ => .stuck
theorem signs_len (x : Str) : (signsP x).length = x.cps.size := by simp [signsP]
theorem yields_str {G0 : Hp} {x : Str} : Yields F (Its x) G0 (signsP x) where
  go := fun i G H hi e s => by rw [signs_len] at hi; exact hi
  yld := fun i G H H' v p hp e s y => by
    obtain ⟨rfl, c, hc, rfl⟩ := y
    have h2 : (signsP x)[i]? = some (.str ⟨#[c]⟩) := by
      unfold signsP
      rw [List.getElem?_map, Array.getElem?_toList, hc]
      rfl
    rw [h2] at hp
    cases hp
    exact ⟨G, Grow.refl s, .str _⟩
  stop := fun G H e s => by rw [signs_len]; exact Nat.le_refl _
theorem qi_str {tg : Expr} {d : DE} (h : PE X a (tE F io W d)) : PI X tg a (tI F io W (dItS d)) := by
  refine (pi_str h).imp fun σ H R ⟨G, Fr, ρ, S, q⟩ => ?_
  refine tD.step S q fun v H1 G1 ρ1 x e1 S1 r1 q1 => ?_
  cases r1 <;> first | exact q1.elim | skip
  case str x => exact ⟨x, rfl, q1 _ G1 H1 (Same.refl _) S1 yields_str⟩
theorem qi_seq {tg : Expr} {d : DE} (hK : F.K = X.K) (h : PE X a (tE F io W d)) : PI X tg a (tI F io W (dItems d)) := by
  refine ⟨fun pins s σ H R I ⟨G, Fr, ρ, S, q⟩ => ?_⟩
  have kind : (∃ xs ρ', d ρ = .ok (.lst xs) ρ') ∨ (∃ xs ρ', d ρ = .ok (.tup xs) ρ') ∨ (∃ x ρ', d ρ = .ok (.str x) ρ') ∨ (∃ c as ρ', d ρ = .exc c as ρ') := by
    unfold dItems at q
    cases ed : d ρ with
    | stuck => rw [ed] at q; exact q.elim
    | exc c as ρ1 => exact .inr (.inr (.inr ⟨c, as, ρ1, rfl⟩))
    | ok x ρ1 =>
      rw [ed] at q
      cases x with
      | lst xs => exact .inl ⟨xs, ρ1, rfl⟩
      | tup xs => exact .inr (.inl ⟨xs, ρ1, rfl⟩)
      | str x => exact .inr (.inr (.inl ⟨x, ρ1, rfl⟩))
      | _ => exact q.elim
  rcases kind with ⟨xs, ρ1, ed⟩ | ⟨xs, ρ1, ed⟩ | ⟨x, ρ1, ed⟩ | ⟨c, as, ρ1, ed⟩
  · refine (qi_list hK h).run pins s σ H R I ⟨G, Fr, ρ, S, ?_⟩
    unfold dItems at q
    unfold dItL
    rw [ed] at q ⊢
    exact q
  · refine (qi_tup hK h).run pins s σ H R I ⟨G, Fr, ρ, S, ?_⟩
    unfold dItems at q
    unfold dItT
    rw [ed] at q ⊢
    exact q
  · refine (qi_str h).run pins s σ H R I ⟨G, Fr, ρ, S, ?_⟩
    unfold dItems at q
    unfold dItS
    rw [ed] at q ⊢
    exact q
  · refine (qi_list hK h).run pins s σ H R I ⟨G, Fr, ρ, S, ?_⟩
    unfold dItems at q
    unfold dItL
    rw [ed] at q ⊢
    exact q

/-! ### zip of two lists, of two tuples -/
def zipP : List PV → List PV → List PV
  | x :: xs, y :: ys => .tup [x, y] :: zipP xs ys
  | _, _ => []
def dZip (d : DD (List PV)) : DD (List PV) := fun ρ => (d ρ).bind fun xs ρ => match xs with
  | [.lst xs, .lst ys] => .ok (zipP xs ys) ρ
  | [.tup xs, .tup ys] => .ok (zipP xs ys) ρ
  | _ => .stuck
theorem zip_get : ∀ {xs ys : List PV} {i : Nat} {p : PV}, (zipP xs ys)[i]? = some p → ∃ x y, p = .tup [x, y] ∧ xs[i]? = some x ∧ ys[i]? = some y
  | x :: xs, y :: ys, 0, p, h => by cases h; exact ⟨x, y, rfl, rfl, rfl⟩
  | x :: xs, y :: ys, i + 1, p, h => zip_get (xs := xs) (ys := ys) (i := i) h
  | [], _, _, _, h => by cases h
  | _ :: _, [], _, _, h => by cases h
theorem zip_len : ∀ {xs ys : List PV}, (zipP xs ys).length = min xs.length ys.length
  | x :: xs, y :: ys => by
    show (zipP xs ys).length + 1 = _
    rw [zip_len]
    simp only [List.length_cons]
    omega
  | [], _ => by simp [zipP]
  | _ :: _, [] => by simp [zipP]
theorem yields_zipL {G0 : Hp} {a b : Addr} {ps qs : List PV} {vs us : List V} (h : G0 a = some (.lst vs)) (r : Reps F G0 ps vs) (h' : G0 b = some (.lst us)) (r' : Reps F G0 qs us) : Yields F (Itz F.K a b) G0 (zipP ps qs) where
  go := fun i G H hi e s => by
    rw [zip_len] at hi
    have l1 := r.length
    have l2 := r'.length
    exact ⟨vs, us, vs[i]'(by omega), us[i]'(by omega), .of (s _ _ (e _ _ h)), .of (s _ _ (e _ _ h')), by simp, by simp⟩
  yld := fun i G H H' v p hp e s y => by
    obtain ⟨T, x, z, rfl, nT, rfl, y1, y2⟩ := y
    obtain ⟨px, pz, rfl, g1, g2⟩ := zip_get hp
    obtain ⟨vx, k1, k2⟩ := r.get g1
    obtain ⟨vz, k3, k4⟩ := r'.get g2
    have e1 := y1 vs (.of (s _ _ (e _ _ h)))
    have e2 := y2 us (.of (s _ _ (e _ _ h')))
    rw [k1] at e1
    rw [k3] at e2
    cases e1
    cases e2
    have sm := e.trans (same_upd (o := .tup [x, z]) (s.free nT))
    exact ⟨_, Grow.new1 s nT, .tup (.inl (.inl upd_same)) (.cons (k2.same sm) (.cons (k4.same sm) .nil))⟩
  stop := fun G H e s => ⟨vs, us, .of (s _ _ (e _ _ h)), .of (s _ _ (e _ _ h')), by
    have l1 := r.length
    have l2 := r'.length
    rw [zip_len]
    omega⟩
theorem yields_zipT {G0 : Hp} {a b : Addr} {ps qs : List PV} {vs us : List V} (h : SqT F.K G0 a vs) (r : Reps F G0 ps vs) (h' : SqT F.K G0 b us) (r' : Reps F G0 qs us) : Yields F (ItzT F.K a b) G0 (zipP ps qs) where
  go := fun i G H hi e s => by
    rw [zip_len] at hi
    have l1 := r.length
    have l2 := r'.length
    exact ⟨vs, us, vs[i]'(by omega), us[i]'(by omega), SqT.same (e.trans s) h, SqT.same (e.trans s) h', by simp, by simp⟩
  yld := fun i G H H' v p hp e s y => by
    obtain ⟨T, x, z, rfl, nT, rfl, y1, y2⟩ := y
    obtain ⟨px, pz, rfl, g1, g2⟩ := zip_get hp
    obtain ⟨vx, k1, k2⟩ := r.get g1
    obtain ⟨vz, k3, k4⟩ := r'.get g2
    have e1 := y1 vs (SqT.same (e.trans s) h)
    have e2 := y2 us (SqT.same (e.trans s) h')
    rw [k1] at e1
    rw [k3] at e2
    cases e1
    cases e2
    have sm := e.trans (same_upd (o := .tup [x, z]) (s.free nT))
    exact ⟨_, Grow.new1 s nT, .tup (.inl (.inl upd_same)) (.cons (k2.same sm) (.cons (k4.same sm) .nil))⟩
  stop := fun G H e s => ⟨vs, us, SqT.same (e.trans s) h, SqT.same (e.trans s) h', by
    have l1 := r.length
    have l2 := r'.length
    rw [zip_len]
    omega⟩
theorem qi_zip {d : DD (List PV)} {p tpos : Pos} {elts : List Expr} {kk : Nat} (hK : F.K = X.K) (hg : Gl X "zip") (hm : X.mg "zip" = none) (ha : PA X [a, b] (tA F io W d)) (hs : starEach [a, b] X.env = (false, eval a X.env) :: starEach [b] X.env := by rfl) (hpl : (backTo pos (starEach [b] X.env)).any (·.1) = false := by rfl) :
    PI X (.Tuple elts kk tpos) (.Call (.Name "zip" p) [a, b] [] pos) (tI F io W (dZip d)) := by
  refine (pi_zipA hg hm ha hs hpl).imp fun σ H R ⟨G, Fr, ρ, S, q⟩ => ?_
  refine tD.step S q fun vs H1 G1 ρ1 xs e1 S1 r1 q1 => ?_
  cases r1 with
  | nil => exact q1.elim
  | cons r rr =>
    cases rr with
    | nil => cases r <;> exact q1.elim
    | cons r2 rr =>
      cases rr with
      | cons => cases r <;> cases r2 <;> exact q1.elim
      | nil =>
        cases r <;> cases r2 <;> first | exact q1.elim | skip
        case lst.lst ps a vs h r qs b us h' r' =>
          exact ⟨a, b, vs, us, rfl, .inl ⟨.of (S1.sub _ _ h), .of (S1.sub _ _ h'), q1 _ G1 H1 (Same.refl _) S1 (by rw [← hK]; exact yields_zipL h r h' r')⟩⟩
        case tup.tup ps a vs h r qs b us h' r' =>
          exact ⟨a, b, vs, us, rfl, .inr ⟨by rw [← hK]; exact SqT.same S1.sub h, by rw [← hK]; exact SqT.same S1.sub h', q1 _ G1 H1 (Same.refl _) S1 (by rw [← hK]; exact yields_zipT h r h' r')⟩⟩

/-! ### {'a': x, 'b': y}[z] -/
def dVals : List (Str × DE) → DD (List (Str × PV))
  | [] => fun ρ => .ok [] ρ
  | (k, d) :: r => fun ρ => (d ρ).bind fun x ρ => (dVals r ρ).bind fun xs ρ => .ok ((k, x) :: xs) ρ
def dPick (ds : List (Str × DE)) (dk : DE) : DE := fun ρ => (dVals ds ρ).bind fun kvs ρ => (dk ρ).bind fun k ρ => match k with
  | .str z => (match kvs.lookup z with
    | some p => .ok p ρ
    | none => .stuck)
  | _ => .stuck
theorem StOk.fr {Fr1 G Fr H : Hp} {σ : L2.St} {ρ : Rho} (S : StOk F io G Fr1 H σ ρ) (e : Same Fr Fr1) : StOk F io G Fr H σ ρ :=
  ⟨S.sub, e.trans S.fsub, fun a o h => e.free (S.dis a o h), S.len, S.val, fun i c h => by
    obtain ⟨a, h1, h2, h3, h4, h5⟩ := S.own i c h
    exact ⟨a, h1, h2, e.free h3, h4, h5⟩, S.sep, fun a h => by
    obtain ⟨h1, h2, h3⟩ := S.iot a h
    exact ⟨h1, e.free h2, h3⟩, S.inp, S.one⟩
theorem Post.fr {α β : Type} {R : Hp → α → β → Prop} {Fr1 G Fr : Hp} {σ : L2.St} {Q : β → Hp → Prop} (e : Same Fr Fr1) : ∀ {r : Res α}, Post R F io W Fr G σ Q r → Post R F io W Fr1 G σ Q r
  | .ok r ρ, h => fun v G1 H1 e1 S => h v G1 H1 e1 (S.fr e)
  | .exc c as ρ, h => fun d G1 H1 e1 S => h d G1 H1 e1 (S.fr e)
  | .stuck, h => h
def prs : List (Str × PV) → List V → List (V × V)
  | q :: qs, u :: us => (.str q.1, u) :: prs qs us
  | _, _ => []
def prK : List (Str × PV) → List V → List (Key × V)
  | q :: qs, u :: us => (.inr q.1, u) :: prK qs us
  | _, _ => []
theorem prs_map : ∀ (qs : List (Str × PV)) (us : List V), prs qs us = (prK qs us).map fun kv => (kV kv.1, kv.2)
  | q :: qs, u :: us => by
    show (V.str q.1, u) :: prs qs us = (V.str q.1, u) :: (prK qs us).map _
    rw [prs_map qs us]
  | [], _ => rfl
  | _ :: _, [] => rfl
theorem prK_len : ∀ {qs : List (Str × PV)} {us : List V}, qs.length = us.length → (prK qs us).length = qs.length
  | q :: qs, u :: us, h => congrArg (· + 1) (prK_len (Nat.succ.inj h))
  | [], [], _ => rfl
  | _ :: _, [], h => by cases h
  | [], _ :: _, h => by cases h
theorem prK_keys : ∀ {qs : List (Str × PV)} {us : List V}, qs.length = us.length → (prK qs us).map (·.1) = qs.map fun q => Sum.inr q.1
  | q :: qs, u :: us, h => by
    show Sum.inr q.1 :: (prK qs us).map _ = _
    rw [prK_keys (Nat.succ.inj h)]
    rfl
  | [], [], _ => rfl
  | _ :: _, [], h => by cases h
  | [], _ :: _, h => by cases h
theorem valV_none {kvs : List (Key × V)} {k : Key} (h : k ∉ kvs.map (·.1)) : valV kvs k = none := by
  unfold valV
  have : kvs.find? (fun kv => decide (kv.1 = k)) = none := by
    rw [List.find?_eq_none]
    intro x hx he
    exact h (List.mem_map.mpr ⟨x, hx, of_decide_eq_true he⟩)
  rw [this]
  rfl
theorem merge_nodup : ∀ (more acc : List (Key × V)), ((acc ++ more).map (·.1)).Nodup → mergeK acc more = acc ++ more
  | [], acc, _ => by rw [List.append_nil]; rfl
  | q :: qs, acc, h => by
    show mergeK (putK acc q.1 q.2) qs = _
    have hn : q.1 ∉ acc.map (·.1) := by
      rw [List.map_append, List.nodup_append] at h
      intro hm
      exact h.2.2 q.1 hm q.1 (by simp) rfl
    rw [putK_new _ (valV_none hn), merge_nodup qs _ (by simpa using h)]
    simp
theorem valV_prK {G : Hp} {z : Str} : ∀ {qs : List (Str × PV)} {us : List V} {p : PV}, Reps F G (qs.map (·.2)) us → qs.lookup z = some p → ∃ v, valV (prK qs us) (Sum.inr z) = some v ∧ Rep F G p v
  | q :: qs, _, p, .cons (v := u) (vs := us) h r, e => by
    have e : (match z == q.1 with
      | true => some q.2
      | false => List.lookup z qs) = some p := e
    by_cases c : z = q.1
    · subst c
      rw [beq_self_eq_true] at e
      cases e
      refine ⟨u, ?_, h⟩
      show (List.find? (fun kv : Key × V => decide (kv.1 = Sum.inr q.1)) ((Sum.inr q.1, u) :: prK qs us)).map (·.2) = some u
      rw [List.find?_cons]
      simp
    · rw [beq_eq_false_iff_ne.mpr c] at e
      obtain ⟨v, h1, h2⟩ := valV_prK r e
      refine ⟨v, ?_, h2⟩
      show (List.find? (fun kv : Key × V => decide (kv.1 = Sum.inr z)) ((Sum.inr q.1, u) :: prK qs us)).map (·.2) = some v
      rw [List.find?_cons]
      have : decide ((Sum.inr q.1 : Key) = Sum.inr z) = false := decide_eq_false fun h => c (Sum.inr.inj h).symm
      simp only [this]
      exact h1
  | [], _, _, _, e => by cases e
theorem pairs_step {β : Type} {R : Hp → PV → β → Prop} {Fr Fr1 : Hp} {σ : L2.St} {Q : β → Hp → Prop} (ef : Same Fr Fr1) : ∀ (ds : List (Str × DE)) {G H : Hp} {ρ : Rho} {k : List (Str × PV) → Rho → Res PV} {Q1 : List (V × V) → Hp → Prop}, StOk F io G Fr1 H σ ρ → Post R F io W Fr G σ Q ((dVals ds ρ).bind k) →
    (∀ us H1 G1 ρ1 kvs, Same G G1 → StOk F io G1 Fr1 H1 σ ρ1 → Reps F G1 (kvs.map (·.2)) us → Post R F io W Fr G1 σ Q (k kvs ρ1) → kvs.map (·.1) = ds.map (·.1) → Q1 (prs kvs us) H1) → tPairs (ds.map fun q => (tC (.str q.1), tE F io W q.2)) σ H Q1
  | [], G, H, ρ, k, Q1, S, q, f => f [] H G ρ [] (Same.refl _) S .nil q rfl
  | (n, d) :: ds, G, H, ρ, k, Q1, S, q, f => by
    have q : Post R F io W Fr G σ Q (((d ρ).bind fun x ρ => (dVals ds ρ).bind fun xs ρ => .ok ((n, x) :: xs) ρ).bind k) := q
    refine ⟨G, Fr1, ρ, S, ?_⟩
    dsimp only
    cases ed : d ρ with
    | exc c as ρ1 =>
      rw [ed] at q
      exact fun dd G' H' e S' x => q dd G' H' e (S'.fr ef) x
    | stuck => rw [ed] at q; exact q.elim
    | ok x ρ1 =>
      rw [ed] at q
      intro u G1 H1 e1 S1 r1
      have q1 : Post R F io W Fr G1 σ Q ((dVals ds ρ1).bind fun xs ρ => k ((n, x) :: xs) ρ) := by
        have q := Post.gle e1 q
        have eb : (Res.bind ((dVals ds ρ1).bind fun xs ρ => .ok ((n, x) :: xs) ρ) k) = (dVals ds ρ1).bind fun xs ρ => k ((n, x) :: xs) ρ := by cases dVals ds ρ1 <;> rfl
        rw [← eb]
        exact q
      refine pairs_step ef ds S1 q1 fun us H2 G2 ρ2 kvs e2 S2 r2 q2 hk => ?_
      exact f (u :: us) H2 G2 ρ2 ((n, x) :: kvs) (e1.trans e2) S2 (.cons (r1.same e2) r2) q2 (congrArg (n :: ·) hk)
theorem StOk.fr_add {G Fr H : Hp} {σ : L2.St} {ρ : Rho} {p : Addr} {o : HO} (S : StOk F io G Fr H σ ρ) (hp : H p = some o) (hG : G p = none) (nI : io ≠ some p) (no : ∀ (j : Nat) (d : PV), ρ[j]? = some (some (SV.own d)) → σ[j]? ≠ some (some (V.ref p))) : StOk F io G (upd Fr p o) H σ ρ := by
  refine ⟨S.sub, fun b u h => ?_, fun b u h => ?_, S.len, S.val, fun i c e => ?_, S.sep, fun b e => ?_, S.inp, S.one⟩
  · by_cases z : b = p
    · subst z
      rw [upd_same] at h
      cases h
      exact hp
    · rw [upd_ne z] at h
      exact S.fsub b u h
  · rw [upd_ne (fun z => by rw [z, hG] at h; cases h)]
    exact S.dis b u h
  · obtain ⟨b, h1, h2, h3, h4, h5⟩ := S.own i c e
    refine ⟨b, h1, h2, ?_, h4, h5⟩
    rw [upd_ne (fun z => no i c e (by rw [← z]; exact h1))]
    exact h3
  · obtain ⟨h1, h2, u, hu⟩ := S.iot b e
    refine ⟨h1, ?_, u, hu⟩
    rw [upd_ne (fun z => nI (by rw [← z]; exact e))]
    exact h2
theorem StOk.apart {G Fr H : Hp} {σ : L2.St} {ρ : Rho} {p : Addr} {o : HO} (S : StOk F io G Fr H σ ρ) (h : Fr p = some o) : G p = none ∧ io ≠ some p ∧ ∀ (j : Nat) (d : PV), ρ[j]? = some (some (SV.own d)) → σ[j]? ≠ some (some (V.ref p)) := by
  refine ⟨?_, fun e => ?_, fun j d e h1 => ?_⟩
  · cases c : G p with
    | none => rfl
    | some u =>
      have := S.dis p u c
      rw [h] at this
      cases this
  · obtain ⟨_, h2, _⟩ := S.iot p e
    rw [h] at h2
    cases h2
  · obtain ⟨b, g1, _, g3, _, _⟩ := S.own j d e
    rw [h1] at g1
    cases g1
    rw [h] at g3
    cases g3
theorem pp_pick {keys : List (Option Expr)} {values : List Expr} {ds : List (Str × DE)} {dk : DE} {p2 : Pos} (hu : X.A.units + 1 < cLine) (hp : PPs X p2 keys values (ds.map fun q => (tC (.str q.1), tE F io W q.2))) (hall : keys.all (·.isSome) = true) (hl : keys.length = values.length) (h0 : keys ≠ []) (h15 : keys.length ≤ 15)
    (hd15 : ds.length ≤ 15) (hnd : (ds.map (·.1)).Nodup) (h : PE X a (tE F io W dk)) (hs : NoSl a) : PE X (.Subscript (.Dict keys values p2) a pos) (tE F io W (dPick ds dk)) := by
  refine (pe_dget hu (pe_disp hp hall hl h0 h15) h hs).imp fun σ H Q ⟨G, Fr, ρ, S, q⟩ => ?_
  intro p np
  have nF := S.fsub.free np
  have S1 := S.grow (Grow.new0 (o := .dK []) S.sub np)
  have io0 : io ≠ some p := fun e => by
    obtain ⟨_, _, u, hu⟩ := S.iot p e
    rw [np] at hu
    cases hu
  have no0 : ∀ (j : Nat) (d : PV), ρ[j]? = some (some (SV.own d)) → σ[j]? ≠ some (some (V.ref p)) := fun j d e h1 => by
    obtain ⟨b, g1, _, _, g4, _⟩ := S.own j d e
    rw [h1] at g1
    cases g1
    obtain ⟨u, hu⟩ := g4.there
    rw [np] at hu
    cases hu
  have S0 := S1.fr_add (o := .dK []) upd_same (S.sub.free np) io0 no0
  refine pairs_step (same_upd nF) ds S0 q fun us H1 G1 ρ1 kvs e1 S1 r1 q1 hk => ?_
  have hlen : kvs.length = us.length := by simpa using r1.length
  have hkl : kvs.length = ds.length := by simpa using congrArg List.length hk
  refine ⟨S1.fsub p _ upd_same, prK kvs us, prs_map _ _, by rw [prK_len hlen, hkl]; exact hd15, ?_⟩
  have hm : mergeK [] (prK kvs us) = prK kvs us := by
    rw [merge_nodup _ _ (by
      rw [List.nil_append, prK_keys hlen]
      have e2 : (kvs.map fun q => (Sum.inr q.1 : Key)) = (ds.map (·.1)).map Sum.inr := by rw [← hk, List.map_map]; rfl
      rw [e2]
      exact List.Pairwise.map _ (fun x y h e => h (Sum.inr.inj e)) hnd)]
    rfl
  rw [hm]
  obtain ⟨a1, a2, a3⟩ := S1.apart (p := p) upd_same
  have S2 := (S1.fr (same_upd nF)).upd_at (o := .dK (prK kvs us)) a1 nF a2 a3
  have S3 := S2.fr_add (o := .dK (prK kvs us)) upd_same a1 a2 a3
  refine tD.step S3 (Post.fr (same_upd nF) q1) fun u H4 G4 ρ4 x e4 S4 r4 q4 => ?_
  cases r4 <;> first | exact q4.elim | skip
  case str z =>
    have q4 : Post (Rep F) F io W (upd Fr p (.dK (prK kvs us))) G4 σ Q (match kvs.lookup z with
      | some p => Res.ok p ρ4
      | none => .stuck) := q4
    cases c : kvs.lookup z with
    | none => rw [c] at q4; exact q4.elim
    | some pz =>
      rw [c] at q4
      obtain ⟨v, g1, g2⟩ := valV_prK r1 c
      exact ⟨p, v, rfl, .inl ⟨_, Sum.inr z, .inl (S4.fsub p _ upd_same), rfl, g1.symm⟩, q4.done S4 (g2.same e4)⟩
end
end Pl

set_option maxHeartbeats 4000000
/-! P9: not x by truth; fewer classes of errors. -/
namespace Pl
open PySem PySem.Spec PyProof.Rows L2
section
variable {X : Cx} {F : Fx} {io : Option Addr} {W : WX} {a b e : Expr} {es : List Expr} {pos : Pos}
def dNotT (d : DE) : DE := fun ρ => (d ρ).bind fun x ρ => ofO ((truth x).map fun b => .bl (!b)) ρ
theorem pp_notT {d : DE} (hK : F.K = X.K) (h : PE X a (tE F io W d)) : PE X (.UnaryOp .Not a pos) (tE F io W (dNotT d)) := by
  refine (pe_notT h).imp fun σ H Q ⟨G, Fr, ρ, S, q⟩ => ?_
  refine tD.step S q fun v H1 G1 ρ1 x e1 S1 r1 q1 => ?_
  obtain ⟨k, hk, kk⟩ := Post.ofO (γ := Unit) q1 S1
  cases ht : truth x with
  | none => rw [ht] at hk; cases hk
  | some b =>
    rw [ht] at hk
    cases hk
    exact ⟨b, tru_of hK S1.sub r1 ht, kk _ G1 H1 (Grow.refl S1.sub) (.bl _)⟩
theorem SubOk.of {n m : List Nat} {sub : Nat → Nat → Bool} (h : SubOk F n sub) (hs : (m.all fun c => n.contains c) = true) : SubOk F m sub := fun c k hc hk =>
  h c k (List.all_eq_true.mp hs c (List.contains_iff_mem.mp hc)) (List.all_eq_true.mp hs k (List.contains_iff_mem.mp hk))
end
theorem blkC_of {N N' : List Str} {sc sc' scope : Scope} {own : List (Str × Nat)} (h1 : N = N') (h2 : sc = sc') (h : blkC N' sc' scope own = true) : BlkOk N sc scope own := by
  subst h1; subst h2; exact blkOk_by h
end Pl

set_option maxHeartbeats 4000000
/-! P10: texts: methods, f-strings, str(), int(), walks sign by sign, enumerate; x op= e; small dicts. -/
namespace Pl
open PySem PySem.Spec PyProof.Rows L2
section
variable {X : Cx} {F : Fx} {io : Option Addr} {W : WX} {a b o e : Expr} {es : List Expr} {pos apos : Pos}
/-! ### methods of a text with one text -/
theorem pp_m1 {id : String} {name : Str} {r : V → List V → Hp → VK → Prop} {f : PV → PV → Option PV} {da db : DE} (slot : Slot "str" name id) (ty : typeOf (.builtin id) = pure (.type "method_descriptor")) (rule : MtR X id r) (hm : MtOk F r f) (ho : PE X o (tE F io W da)) (he : PE X e (tE F io W db))
    (hs : starEach [e] X.env = [(false, eval e X.env)] := by rfl) (hbase : attributeBase o name X.env (eval o X.env) = eval o X.env := by rfl) (hline : (apos.endLine == pos.line) = true := by rfl) :
    PE X (.Call (.Attribute o name apos) [e] [] pos) (tE F io W (dBinS f da db)) :=
  (pe_m1 slot ty rule ho he hs hbase hline).imp fun σ H Q h => m1_step (F := F) (io := io) (W := W) (f := f) hm h
def pStarts : PV → PV → Option PV
  | .str x, .str y => some (.bl (Txt.startswith x y))
  | _, _ => none
theorem m_starts : MtOk F (fun x xs H Q => ∃ a b, x = .str a ∧ xs = [.str b] ∧ Q (.bl (Txt.startswith a b)) H) pStarts := by
  intro G H v u x y z Q s rx ry e k
  cases rx <;> cases ry <;> first | (exfalso; cases e; done) | skip
  cases e
  exact ⟨_, _, rfl, rfl, k _ G H (Grow.refl s) (.bl _)⟩
def pSplit : PV → PV → Option PV
  | .str x, .str y => if (y.length == 0) = false ∧ x.length + 2 ≤ LIM then some (.lst ((Txt.split x y).map .str)) else none
  | _, _ => none
theorem reps_strs {G : Hp} : ∀ l : List Str, Reps F G (l.map .str) (l.map V.str)
  | [] => .nil
  | x :: l => .cons (.str x) (reps_strs l)
theorem m_split : MtOk F (fun x xs H Q => ∃ a b, x = .str a ∧ xs = [.str b] ∧ (b.length == 0) = false ∧ a.length + 2 ≤ sizeLine ∧ rNewStrs (Txt.split a b) H Q) pSplit := by
  intro G H v u x y z Q s rx ry e k
  cases rx <;> cases ry <;> first | (exfalso; cases e; done) | skip
  case str.str i j =>
    obtain ⟨⟨l1, l2⟩, rfl⟩ := ite_some e
    exact ⟨_, _, rfl, rfl, l1, lim_line l2, fun p n => k _ _ _ (Grow.new1 s n) (.lst upd_same (reps_strs _))⟩
def pIndex : PV → PV → Option PV
  | .str x, .str y => (Txt.index0 x y).map fun k => .int (k : Nat)
  | _, _ => none
def rIdx : V → List V → Hp → VK → Prop := fun x xs H Q => ∃ (a b : Str) (k : Nat), x = .str a ∧ xs = [.str b] ∧ Txt.index0 a b = some k ∧ Q (.int (k : Nat)) H
theorem mt_idx : MtR X "str.index" rIdx := by
  intro pins s σ H x xs v us Q I rx rs h
  obtain ⟨a, b, k, rfl, rfl, hk, q⟩ := h
  obtain ⟨t, rfl⟩ := rx
  cases rs with
  | cons r1 rs =>
    cases rs
    obtain ⟨u, rfl⟩ := r1
    unfold Txt.index0 at hk
    cases c : Builtin.Str.occurrences a b 0 a.length 1 with
    | nil => rw [c] at hk; cases hk
    | cons j rest =>
      rw [c] at hk
      cases hk
      exact PySem.SC.index c ⟨.int (k : Nat), H, I.tok _, ⟨_, rfl⟩, q⟩
theorem m_index : MtOk F rIdx pIndex := by
  intro G H v u x y z Q s rx ry e k
  cases rx <;> cases ry <;> first | (exfalso; cases e; done) | skip
  case str.str i j =>
    unfold pIndex at e
    dsimp only at e
    cases c : Txt.index0 i j with
    | none => rw [c] at e; cases e
    | some m => rw [c] at e; cases e; exact ⟨_, _, _, rfl, rfl, c, k _ G H (Grow.refl s) (.int _)⟩
theorem pp_starts {da db : DE} (ho : PE X o (tE F io W da)) (he : PE X e (tE F io W db)) (hs : starEach [e] X.env = [(false, eval e X.env)] := by rfl) (hbase : attributeBase o "startswith" X.env (eval o X.env) = eval o X.env := by rfl) (hline : (apos.endLine == pos.line) = true := by rfl) :
    PE X (.Call (.Attribute o "startswith" apos) [e] [] pos) (tE F io W (dBinS pStarts da db)) := pp_m1 PySem.F.slot_str_startswith PySem.F.type_str_startswith mt_startswith m_starts ho he hs hbase hline
theorem pp_split {da db : DE} (ho : PE X o (tE F io W da)) (he : PE X e (tE F io W db)) (hs : starEach [e] X.env = [(false, eval e X.env)] := by rfl) (hbase : attributeBase o "split" X.env (eval o X.env) = eval o X.env := by rfl) (hline : (apos.endLine == pos.line) = true := by rfl) :
    PE X (.Call (.Attribute o "split" apos) [e] [] pos) (tE F io W (dBinS pSplit da db)) := pp_m1 PySem.F.slot_str_split PySem.F.type_str_split mt_split m_split ho he hs hbase hline
theorem pp_index {da db : DE} (ho : PE X o (tE F io W da)) (he : PE X e (tE F io W db)) (hs : starEach [e] X.env = [(false, eval e X.env)] := by rfl) (hbase : attributeBase o "index" X.env (eval o X.env) = eval o X.env := by rfl) (hline : (apos.endLine == pos.line) = true := by rfl) :
    PE X (.Call (.Attribute o "index" apos) [e] [] pos) (tE F io W (dBinS pIndex da db)) := pp_m1 PySem.F.slot_str_index PySem.F.type_str_index mt_idx m_index ho he hs hbase hline
/-! ### f-strings -/
def pFmt : PV → Option PV
  | .str y => if y.length ≤ LIM then some (.str y) else none
  | .int i => if i.natAbs.log2 < 1920 then some (.str (toString i)) else none
  | _ => none
def dFmt (d : DE) : DE := dUn pFmt d
theorem pp_fmt {d : DE} (h : PE X e (tE F io W d)) : PE X (.FormattedValue e (-1) none pos) (tE F io W (dFmt d)) := by
  refine (pe_fmt h).imp fun σ H Q ⟨G, Fr, ρ, S, q⟩ => ?_
  refine tD.step S q fun v H1 G1 ρ1 x e1 S1 r1 q1 => ?_
  obtain ⟨z, hz, k⟩ := Post.ofO (γ := Unit) q1 S1
  cases r1 <;> first | (exfalso; cases hz; done) | skip
  case str y =>
    obtain ⟨l, rfl⟩ := ite_some hz
    exact .inl ⟨_, rfl, lim_line l, k _ G1 H1 (Grow.refl S1.sub) (.str _)⟩
  case int i =>
    obtain ⟨l, rfl⟩ := ite_some hz
    exact .inr ⟨_, rfl, l, k _ G1 H1 (Grow.refl S1.sub) (.str _)⟩
def dJ : List DE → Str → DE
  | [], acc => fun ρ => .ok (.str acc) ρ
  | d :: ds, acc => fun ρ => (d ρ).bind fun x ρ => match x with
    | .str y => if (acc ++ y).length ≤ LIM then dJ ds (acc ++ y) ρ else .stuck
    | _ => .stuck
theorem js_step : ∀ (ds : List DE) (acc : Str) {G Fr H : Hp} {ρ : Rho} {σ : L2.St} {Q : VK}, StOk F io G Fr H σ ρ → Post (Rep F) F io W Fr G σ Q (dJ ds acc ρ) → tJs (ds.map (tE F io W)) acc σ H (fun out H1 => Q (.str out) H1)
  | [], acc, G, Fr, H, ρ, σ, Q, S, q => q.done S (.str acc)
  | d :: ds, acc, G, Fr, H, ρ, σ, Q, S, q => by
    refine tD.step (W := W) (k := fun x ρ => match x with
      | .str y => if (acc ++ y).length ≤ LIM then dJ ds (acc ++ y) ρ else .stuck
      | _ => .stuck) S q fun v H1 G1 ρ1 x e1 S1 r1 q1 => ?_
    cases r1 <;> first | exact q1.elim | skip
    case str y =>
      have q1 : Post (Rep F) F io W Fr G1 σ Q (if (acc ++ y).length ≤ LIM then dJ ds (acc ++ y) ρ1 else .stuck) := q1
      by_cases l : (acc ++ y).length ≤ LIM
      · rw [if_pos l] at q1
        exact ⟨_, rfl, lim_line l, js_step ds _ S1 q1⟩
      · rw [if_neg l] at q1
        exact q1.elim
inductive PJd (X : Cx) (F : Fx) (io : Option Addr) (W : WX) : List Expr → List DE → Prop where
  | nil : PJd X F io W [] []
  | cons {e : Expr} {d : DE} {es : List Expr} {ds : List DE} (h : PE X e (tE F io W d)) (r : PJd X F io W es ds) : PJd X F io W (e :: es) (d :: ds)
theorem PJd.pj {es : List Expr} {ds : List DE} (h : PJd X F io W es ds) : PJ X es (ds.map (tE F io W)) := by
  induction h with
  | nil => exact .nil
  | cons h r ih => exact .cons h ih
theorem pj_nil : PJd X F io W [] [] := .nil
theorem pj_cons {d : DE} {ds : List DE} (h : PE X e (tE F io W d)) (r : PJd X F io W es ds) : PJd X F io W (e :: es) (d :: ds) := .cons h r
theorem pp_joined {v1 v2 : Expr} {rest : List Expr} {ds : List DE} (h : PJd X F io W (v1 :: v2 :: rest) ds) : PE X (.JoinedStr (v1 :: v2 :: rest) pos) (tE F io W (dJ ds Str.empty)) :=
  (pe_joined h.pj).imp fun σ H Q ⟨G, Fr, ρ, S, q⟩ => js_step ds Str.empty S q
/-! ### str(x), int(x) -/
theorem CallR.or {f : Value} {r r' : List V → Hp → VK → Prop} (h : CallR X f r) (h' : CallR X f r') : CallR X f (fun xs H Q => r xs H Q ∨ r' xs H Q) := by
  intro pins s σ H xs us Q I rs q
  rcases q with q | q
  · exact h pins s σ H xs us Q I rs q
  · exact h' pins s σ H xs us Q I rs q
def fStr : List PV → Option PV
  | [.int i] => if i.natAbs.log2 < 1920 then some (.str (toString i)) else none
  | [.str x] => some (.str x)
  | _ => none
def rStrA : List V → Hp → VK → Prop := fun xs H Q => (∃ i, xs = [.int i] ∧ i.natAbs.log2 < 1920 ∧ Q (.str (toString i)) H) ∨ ∃ a, xs = [.str a] ∧ Q (.str a) H
theorem call_strA : CallR X (.type "str") rStrA := CallR.or call_str_int SkE.call_str_str
theorem f_str : CalOk F rStrA fStr := by
  intro G H vs xs z Q s rx e k
  unfold fStr at e
  split at e
  · obtain ⟨l, rfl⟩ := ite_some e
    cases rx with
    | cons r1 r =>
      cases r
      cases r1
      exact .inl ⟨_, rfl, l, k _ G H (Grow.refl s) (.str _)⟩
  · cases e
    cases rx with
    | cons r1 r =>
      cases r
      cases r1
      exact .inr ⟨_, rfl, k _ G H (Grow.refl s) (.str _)⟩
  · cases e
def fIntA : List PV → Option PV
  | [.int i] => some (.int i)
  | [.bl k] => some (.int (if k then 1 else 0))
  | [.str x] => if x.length ≤ 640 then (PySem.intText? x).map .int else none
  | _ => none
def rIntA : List V → Hp → VK → Prop := fun xs H Q => ((∃ i, xs = [.int i] ∧ Q (.int i) H) ∨ ∃ k, xs = [.bl k] ∧ Q (.int (if k then 1 else 0)) H) ∨ ∃ a n, xs = [.str a] ∧ PySem.intText? a = some n ∧ a.length ≤ 640 ∧ Q (.int n) H
theorem call_intA : CallR X (.type "int") rIntA := CallR.or call_int1 call_int_str
theorem f_intA : CalOk F rIntA fIntA := by
  intro G H vs xs z Q s rx e k
  unfold fIntA at e
  split at e
  · cases e
    cases rx with
    | cons r1 r =>
      cases r
      cases r1
      exact .inl (.inl ⟨_, rfl, k _ G H (Grow.refl s) (.int _)⟩)
  · cases e
    cases rx with
    | cons r1 r =>
      cases r
      cases r1
      exact .inl (.inr ⟨_, rfl, k _ G H (Grow.refl s) (.int _)⟩)
  · rename_i x
    by_cases l : x.length ≤ 640
    · rw [if_pos l] at e
      cases c : PySem.intText? x with
      | none => rw [c] at e; cases e
      | some n =>
        rw [c] at e
        cases e
        cases rx with
        | cons r1 r =>
          cases r
          cases r1
          exact .inr ⟨_, n, rfl, c, l, k _ G H (Grow.refl s) (.int _)⟩
    · rw [if_neg l] at e
      cases e
  · cases e
/-! ### x += e of whole numbers -/
def pIpAdd : PV → PV → Option PV
  | .int i, .int j => some (.int (i + j))
  | _, _ => none
theorem ip_addN : IpOk F (ipI fun i j => i + j) pIpAdd := by
  intro G H v u x y z Q s rx ry e k
  cases rx <;> cases ry <;> first | (exfalso; cases e; done) | skip
  cases e
  exact ⟨_, _, rfl, rfl, k _ G H (Grow.refl s) (.int _)⟩
/-! ### enumerate -/
def enumL : Nat → List PV → List PV
  | _, [] => []
  | n, p :: ps => .tup [.int (n : Nat), p] :: enumL (n + 1) ps
theorem enumL_len : ∀ (n : Nat) (ps : List PV), (enumL n ps).length = ps.length
  | _, [] => rfl
  | n, _ :: ps => congrArg (· + 1) (enumL_len (n + 1) ps)
theorem enumL_get : ∀ {ps : List PV} {n i : Nat} {p : PV}, (enumL n ps)[i]? = some p → ∃ q, p = .tup [.int ((n + i : Nat) : Int), q] ∧ ps[i]? = some q
  | [], n, i, p, h => by cases h
  | q :: ps, n, 0, p, h => by
    cases h
    exact ⟨q, rfl, rfl⟩
  | q :: ps, n, i + 1, p, h => by
    obtain ⟨z, h1, h2⟩ := enumL_get (ps := ps) (n := n + 1) (i := i) (p := p) (by simpa [enumL] using h)
    exact ⟨z, by rw [h1, show n + 1 + i = n + (i + 1) from by omega], by simpa using h2⟩
def dEnum (d : DD (List PV)) : DD (List PV) := fun ρ => (d ρ).bind fun xs ρ => match xs with
  | [.lst ps] => .ok (enumL 0 ps) ρ
  | _ => .stuck
theorem yields_enum {G0 : Hp} {a : Addr} {ps : List PV} {vs : List V} (h : G0 a = some (.lst vs)) (r : Reps F G0 ps vs) : Yields F (Ite F.K a) G0 (enumL 0 ps) where
  go := fun i G H hi e s => ⟨vs, vs[i]'(by rw [← r.length]; rw [enumL_len] at hi; exact hi), .of (s _ _ (e _ _ h)), by simp⟩
  yld := fun i G H H' v p hp e s y => by
    obtain ⟨T, x, rfl, nT, rfl, y⟩ := y
    obtain ⟨q, rfl, hq⟩ := enumL_get hp
    obtain ⟨v', h1, h2⟩ := r.get hq
    have := y vs (.of (s _ _ (e _ _ h)))
    rw [h1] at this
    cases this
    have sm := e.trans (same_upd (o := .tup [.int (i : Nat), x]) (s.free nT))
    rw [Nat.zero_add]
    exact ⟨_, Grow.new1 s nT, .tup (.inl (.inl upd_same)) (.cons (.int _) (.cons (h2.same sm) .nil))⟩
  stop := fun G H e s => ⟨vs, .of (s _ _ (e _ _ h)), by rw [enumL_len, r.length]; exact Nat.le_refl _⟩
theorem qi_enum {d : DD (List PV)} {p tpos : Pos} {elts : List Expr} {kk : Nat} (hK : F.K = X.K) (hg : Gl X "enumerate") (hm : X.mg "enumerate" = none) (ha : PA X [e] (tA F io W d)) (hs : starEach [e] X.env = [(false, eval e X.env)] := by rfl) :
    PI X (.Tuple elts kk tpos) (.Call (.Name "enumerate" p) [e] [] pos) (tI F io W (dEnum d)) := by
  refine (pi_enum hg hm ha hs).imp fun σ H R ⟨G, Fr, ρ, S, q⟩ => ?_
  refine tD.step S q fun vs H1 G1 ρ1 xs e1 S1 r1 q1 => ?_
  cases r1 with
  | nil => exact q1.elim
  | cons r rr =>
    cases rr with
    | cons => cases r <;> exact q1.elim
    | nil =>
      cases r <;> first | exact q1.elim | skip
      case lst ps a vs h r => exact ⟨a, vs, rfl, .of (S1.sub _ _ h), q1 _ G1 H1 (Same.refl _) S1 (by rw [← hK]; exact yields_enum h r)⟩
end
end Pl

set_option maxHeartbeats 4000000
/-! P11: dicts with text keys: new, stored into, read; handed to a def while one keeps them. -/
namespace Pl
open PySem PySem.Spec PyProof.Rows L2 RZ
section
variable {X : Cx} {F : Fx} {io : Option Addr} {W : WX} {a b o e : Expr} {es : List Expr} {pos apos cpos : Pos}
/-- {} as a value -/
def dDic0 : DE := fun ρ => .ok (.dks [] []) ρ
theorem pp_dic0 : PE X (.Dict [] [] pos) (tE F io W dDic0) := pe_dnewK.imp fun σ H Q ⟨G, Fr, ρ, S, q⟩ p n =>
  q (.ref p) (upd G p (.dK [])) (upd H p (.dK [])) (same_upd (S.sub.free n)) (S.grow (Grow.new1 S.sub n)) (.dK (kvs := []) upd_same rfl .nil)
/-! ### what stands at a text -/
def lkS (z : Str) : List PV → List PV → Option PV
  | .str y :: ks, v :: vs => if y = z then some v else lkS z ks vs
  | _ :: ks, _ :: vs => lkS z ks vs
  | _, _ => none
theorem lkS_ok {G : Hp} {z : Str} : ∀ {kvs : List (Key × V)} {vs : List PV}, Reps F G vs (kvs.map (·.2)) → match lkS z (kvs.map fun q => keyPV q.1) vs with
    | some p => ∃ v, valV kvs (Sum.inr z) = some v ∧ Rep F G p v
    | none => valV kvs (Sum.inr z) = none
  | [], _, .nil => rfl
  | (.inl i, u) :: kvs, _, .cons (p := p) (ps := ps) h r => by
    have ih := lkS_ok (z := z) r
    have e : valV ((Sum.inl i, u) :: kvs) (Sum.inr z) = valV kvs (Sum.inr z) := valV_neg (by intro h; cases h)
    rw [e]
    exact ih
  | (.inr y, u) :: kvs, _, .cons (p := p) (ps := ps) h r => by
    have ih := lkS_ok (z := z) r
    show match (if y = z then some p else lkS z (kvs.map fun q => keyPV q.1) ps) with
      | some p => ∃ v, valV ((Sum.inr y, u) :: kvs) (Sum.inr z) = some v ∧ Rep F G p v
      | none => valV ((Sum.inr y, u) :: kvs) (Sum.inr z) = none
    by_cases c : y = z
    · rw [if_pos c]
      exact ⟨u, valV_pos (by rw [c]), h⟩
    · rw [if_neg c]
      have e : valV ((Sum.inr y, u) :: kvs) (Sum.inr z) = valV kvs (Sum.inr z) := valV_neg (by intro h; cases h; exact c rfl)
      rw [e]
      exact ih
/-- d.get(z) -/
def pGet1 : PV → PV → Option PV
  | .dks ks vs, .str z => some ((lkS z ks vs).getD .non)
  | _, _ => none
def isDk : PV → Bool
  | .dks _ _ => true
  | _ => false
def dGet1 (da db : DE) : DE := fun ρ => (da ρ).bind fun x ρ => if isDk x = true then (db ρ).bind fun y ρ => ofO (pGet1 x y) ρ else .stuck
theorem pp_get1 {da db : DE} (hu : X.A.units + 1 < cLine) (ho : PE X o (tE F io W da)) (he : PE X e (tE F io W db)) (m : M1 X o "get" apos e cpos) : PE X (.Call (.Attribute o "get" apos) [e] [] cpos) (tE F io W (dGet1 da db)) := by
  refine (pe_dget1 hu ho he m).imp fun σ H Q ⟨G, Fr, ρ, S, q⟩ => ?_
  refine tD.step S q fun v H1 G1 ρ1 x e1 S1 r1 q1 => ?_
  cases r1 <;> first | (exfalso; exact q1.elim) | skip
  case dK ks vs a kvs h hk r =>
    refine ⟨a, rfl, .inl ⟨kvs, .inl (S1.sub _ _ h)⟩, tD.step S1 q1 fun u H2 G2 ρ2 y e2 S2 r2 q2 => ?_⟩
    cases r2 <;> first | (exfalso; exact q2.elim) | skip
    case str z =>
      have w := lkS_ok (z := z) r
      subst hk
      have q2 : Post (Rep F) F io W Fr G2 σ Q (.ok ((lkS z (kvs.map fun q => keyPV q.1) vs).getD .non) ρ2) := q2
      cases c : lkS z (kvs.map fun q => keyPV q.1) vs with
      | none =>
        rw [c] at w q2
        exact ⟨none, .inl ⟨kvs, Sum.inr z, .inl (S2.sub _ _ (e2 _ _ h)), rfl, w.symm⟩, q2.done S2 .non⟩
      | some p =>
        rw [c] at w q2
        obtain ⟨v, w1, w2⟩ := w
        exact ⟨some v, .inl ⟨kvs, Sum.inr z, .inl (S2.sub _ _ (e2 _ _ h)), rfl, w1.symm⟩, q2.done S2 (w2.same e2)⟩
/-! ### a dict of one's own -/
def sNewD (i : Nat) : DS := fun ρ => .nx (ρ.set i (some (.own (.dks [] []))))
theorem st_newD {i : Nat} {x : Str} {pos' p2 : Pos} (hN : X.N.Nodup) (hi : X.N[i]? = some x) (hx : L2.Loc X.env.scope x) (hs : swapsWith (.Dict [] [] p2) (some (.Name x pos')) pos.line X.env = pure false := by rfl)
    (hf : X.fn x = true ∨ X.env.scope.names.lookup x = some .local := by first | exact .inl rfl | exact .inr rfl | assumption) : PS X (.Assign [.Name x pos'] (.Dict [] [] p2) pos) (tS F io W (sNewD i)) := by
  refine (ps_set hN hi hx pe_dnewK hs hf).imp fun D σ H ⟨G, Fr, ρ, S, q⟩ => ?_
  intro p n
  exact PostS.next q (S.new_own n (.dK (kvs := []) upd_same rfl .nil))
def putSk (z : Str) : List PV → List PV
  | [] => [.str z]
  | .str y :: ks => if y = z then .str y :: ks else .str y :: putSk z ks
  | k :: ks => k :: putSk z ks
def putSv (z : Str) (p : PV) : List PV → List PV → List PV
  | .str y :: ks, v :: vs => if y = z then p :: vs else v :: putSv z p ks vs
  | _ :: ks, v :: vs => v :: putSv z p ks vs
  | _, _ => [p]
theorem putK_cons {y z : Key} {u v : V} {kvs : List (Key × V)} (hn : ((y, u) :: kvs).map (·.1) |>.Nodup) : putK ((y, u) :: kvs) z v = if y = z then (y, v) :: kvs else (y, u) :: putK kvs z v := by
  have hn : y ∉ kvs.map (·.1) := (List.nodup_cons.mp hn).1
  by_cases c : y = z
  · subst c
    rw [if_pos rfl]
    unfold putK
    have e : (((y, u) :: kvs).any fun kv => decide (kv.1 = y)) = true := by simp
    rw [if_pos e, List.map_cons, if_pos rfl]
    congr 1
    refine (List.map_congr_left fun q hq => ?_).trans (List.map_id _)
    rw [if_neg]
    · rfl
    · intro z
      exact hn (List.mem_map.mpr ⟨q, hq, z⟩)
  · rw [if_neg c]
    unfold putK
    have e : (((y, u) :: kvs).any fun kv => decide (kv.1 = z)) = kvs.any fun kv => decide (kv.1 = z) := by
      rw [List.any_cons]
      simp [c]
    rw [e]
    by_cases d : (kvs.any fun kv => decide (kv.1 = z)) = true
    · rw [if_pos d, if_pos d, List.map_cons, if_neg c]
    · rw [if_neg d, if_neg d, List.cons_append]
/-- the keys of a dict of one's own are told once -/
def nodupS (ks : List PV) : Bool := match ks with
  | [] => true
  | .str y :: r => (lkS y r r).isNone && nodupS r
  | _ :: _ => false
theorem lkS_none {z : Str} : ∀ {ks vs : List PV}, ks.length = vs.length → lkS z ks vs = none → ∀ y, PV.str y ∈ ks → y ≠ z
  | k :: ks, v :: vs, hl, h, y, hm => by
    have hl2 : ks.length = vs.length := Nat.succ.inj hl
    clear hl
    cases k with
    | str x =>
      have h : (if x = z then some v else lkS z ks vs) = none := h
      by_cases c : x = z
      · rw [if_pos c] at h; cases h
      · rw [if_neg c] at h
        rcases List.mem_cons.mp hm with e | e
        · cases e; exact c
        · exact lkS_none (ks := ks) (vs := vs) hl2 h y e
    | _ =>
      rcases List.mem_cons.mp hm with e | e
      · cases e
      · exact lkS_none (ks := ks) (vs := vs) hl2 h y e
  | [], _, _, _, _, hm => absurd hm List.not_mem_nil
  | _ :: _, [], hl, _, _, _ => by cases hl
theorem nodupS_ok : ∀ {kvs : List (Key × V)}, nodupS (kvs.map fun q => keyPV q.1) = true → (kvs.map (·.1)).Nodup
  | [], _ => List.nodup_nil
  | (.inl i, u) :: kvs, h => by cases h
  | (.inr y, u) :: kvs, h => by
    obtain ⟨h1, h2⟩ := Bool.and_eq_true_iff.mp (show ((lkS y (kvs.map fun q => keyPV q.1) (kvs.map fun q => keyPV q.1)).isNone && nodupS (kvs.map fun q => keyPV q.1)) = true from h)
    refine List.nodup_cons.mpr ⟨fun hm => ?_, nodupS_ok h2⟩
    obtain ⟨q, hq, e⟩ := List.mem_map.mp hm
    refine lkS_none (z := y) rfl (Option.isNone_iff_eq_none.mp h1) y ?_ rfl
    refine List.mem_map.mpr ⟨q, hq, ?_⟩
    have e : q.1 = Sum.inr y := e
    rw [e]
    rfl
theorem put_ok {G : Hp} {z : Str} {p : PV} {v : V} (hp : Rep F G p v) : ∀ {kvs : List (Key × V)} {vs : List PV}, (kvs.map (·.1)).Nodup → Reps F G vs (kvs.map (·.2)) →
    putSk z (kvs.map fun q => keyPV q.1) = (putK kvs (Sum.inr z) v).map (fun q => keyPV q.1) ∧ Reps F G (putSv z p (kvs.map fun q => keyPV q.1) vs) ((putK kvs (Sum.inr z) v).map (·.2))
  | [], _, _, .nil => ⟨rfl, .cons hp .nil⟩
  | (y, u) :: kvs, _, hn, .cons (p := q) (ps := qs) h r => by
    rw [putK_cons hn]
    obtain ⟨h1, h2⟩ := put_ok (z := z) hp (List.nodup_cons.mp hn).2 r
    cases y with
    | inl i =>
      rw [if_neg (by intro h; cases h)]
      exact ⟨congrArg (PV.int i :: ·) h1, .cons h h2⟩
    | inr y =>
      by_cases c : y = z
      · subst c
        rw [if_pos rfl]
        refine ⟨?_, ?_⟩
        · show (if y = y then PV.str y :: kvs.map (fun q => keyPV q.1) else _) = _
          rw [if_pos rfl]
          rfl
        · show Reps F G (if y = y then p :: qs else _) _
          rw [if_pos rfl]
          exact .cons hp r
      · rw [if_neg (by intro h; cases h; exact c rfl)]
        refine ⟨?_, ?_⟩
        · show (if y = z then _ else PV.str y :: putSk z (kvs.map fun q => keyPV q.1)) = _
          rw [if_neg c]
          exact congrArg (PV.str y :: ·) h1
        · show Reps F G (if y = z then _ else q :: putSv z p (kvs.map fun q => keyPV q.1) qs) _
          rw [if_neg c]
          exact .cons h h2
def isDkM (ρ : Rho) (i : Nat) : Bool := match slotM ρ i with
  | some (.dks _ _) => true
  | _ => false
theorem dkM_at {ρ : Rho} {i : Nat} (h : isDkM ρ i = true) : ∃ ks vs, slotM ρ i = some (.dks ks vs) := by
  unfold isDkM at h
  split at h
  · rename_i ks vs q
    exact ⟨ks, vs, q⟩
  · cases h
theorem own_dk {G H : Hp} {p : Addr} {ks vs : List PV} (h : Own F G H p (.dks ks vs)) : ∃ kvs : List (Key × V), H p = some (.dK kvs) ∧ ks = kvs.map (fun q => keyPV q.1) ∧ Reps F G vs (kvs.map (·.2)) := by
  cases h with
  | dK h q r => exact ⟨_, h, q, r⟩
def putDk (c : PV) (k y : PV) : Option PV := match c, k with
  | .dks ks vs, .str z => if ks.length < LIM ∧ nodupS ks = true then some (.dks (putSk z ks) (putSv z y ks vs)) else none
  | _, _ => none
/-- x[k] = v -/
def sPutS (i : Nat) (dk dv : DE) : DS := fun ρ => (dv ρ).toOut fun y ρ => if isDkM ρ i = true then (dk ρ).toOut fun k ρ => (match slotM ρ i with
    | some c => (match putDk c k y with
      | some c' => .nx (putM ρ i c')
      | none => .stuck)
    | none => .stuck) else .stuck
theorem st_putS {i : Nat} {x : Str} {dk dv : DE} {p1 p2 : Pos} {k : Expr} (hu : X.A.units + 1 < cLine) (hv : PE X (.Name x p1) (tVar i)) (hk : PE X k (tE F io W dk)) (h : PE X e (tE F io W dv)) (hs : swapsWith e (some (.Subscript (.Name x p1) k p2)) pos.line X.env = pure false := by rfl) :
    PS X (.Assign [.Subscript (.Name x p1) k p2] e pos) (tS F io W (sPutS i dk dv)) := by
  refine (ps_dput hu hv hk h hs).imp fun D σ H ⟨G, Fr, ρ, S, q⟩ => ?_
  refine tD.stepS S q fun v H1 G1 ρ1 y e1 S1 r1 q1 => ?_
  by_cases l : isDkM ρ1 i = true
  · rw [if_pos l] at q1
    obtain ⟨ks0, vs0, em⟩ := dkM_at l
    obtain ⟨p, h1, h2, h3, h4, _⟩ := slotM_at S1 em
    refine ⟨.ref p, h1, tD.stepS S1 q1 fun u H2 G2 ρ2 kk e2 S2 r2 q2 => ?_⟩
    cases em1 : slotM ρ2 i with
    | none => rw [em1] at q2; exact q2.elim
    | some c =>
      rw [em1] at q2
      have q2 : PostS F io W Fr G2 D (match putDk c kk y with
        | some c' => .nx (putM ρ2 i c')
        | none => .stuck) := q2
      cases ec : putDk c kk y with
      | none => rw [ec] at q2; exact q2.elim
      | some c' =>
        rw [ec] at q2
        cases c <;> first | (exfalso; cases ec; done) | skip
        case dks ks vs =>
          cases r2 <;> first | (exfalso; cases ec; done) | skip
          case str z =>
            obtain ⟨⟨l1, l2⟩, rfl⟩ := ite_some ec
            obtain ⟨p', k1, k2, k3, k4, k5⟩ := slotM_at S2 em1
            rw [h1] at k1
            cases k1
            obtain ⟨kvs, g1, rfl, g3⟩ := own_dk k4
            obtain ⟨w1, w2⟩ := put_ok (z := z) (r1.same e2) (nodupS_ok l2) g3
            refine ⟨p, _, rfl, DPut.k (k := Sum.inr z) g1 ?_, PostS.next q2 (k5 _ _ (.dK upd_same w1 w2))⟩
            rw [List.length_map] at l1
            exact Nat.lt_of_lt_of_le l1 (by decide)
  · rw [if_neg l] at q1
    exact q1.elim
/-! ### a dict of one's own handed to a def that only reads it -/
mutual
def noD : PV → Bool
  | .tup xs => noDs xs
  | .lst xs => noDs xs
  | .ins _ xs => noDs xs
  | .dct _ _ => false
  | .dks _ _ => false
  | _ => true
def noDs : List PV → Bool
  | [] => true
  | x :: xs => noD x && noDs xs
end
def cut (G : Hp) (a : Addr) : Hp := fun b => if b = a then none else G b
section
variable {G : Hp} {q : Addr} {u : HO}
theorem cut_at {b : Addr} {o : HO} (hq : G q = some u) (h : G b = some o) (n : o ≠ u) : cut G q b = some o := by
  unfold cut
  rw [if_neg]
  · exact h
  · intro e
    rw [e, hq] at h
    exact n (Option.some.inj h).symm
mutual
theorem Rep.cut (hq : G q = some u) (h1 : ∀ xs, HO.tup xs ≠ u) (h2 : ∀ xs, HO.lst xs ≠ u) (h3 : ∀ c d fs, HO.ins c d fs ≠ u) (h4 : ∀ o v, HO.frz o v ≠ u) : ∀ {p : PV} {v : V}, Rep F G p v → noD p = true → Rep F (cut G q) p v
  | _, _, .non, _ => .non
  | _, _, .bl b, _ => .bl b
  | _, _, .int i, _ => .int i
  | _, _, .str x, _ => .str x
  | _, _, .tup h r, d => by
    refine .tup ?_ (Reps.cut hq h1 h2 h3 h4 r d)
    rcases h with (h | ⟨o, h⟩) | h
    · exact .inl (.inl (cut_at hq h (h1 _)))
    · exact .inl (.inr ⟨o, cut_at hq h (h4 _ _)⟩)
    · exact .inr h
  | _, _, .lst h r, d => .lst (cut_at hq h (h2 _)) (Reps.cut hq h1 h2 h3 h4 r d)
  | _, _, .scr h, _ => by
    refine .scr ?_
    rcases h with (h | ⟨o, h⟩) | h
    · exact .inl (.inl (cut_at hq h (h2 _)))
    · exact .inl (.inr ⟨o, cut_at hq h (h4 _ _)⟩)
    · exact .inr h
  | _, _, .dK h k r, d => by cases d
  | _, _, .dT h k n b u r, d => by cases d
  | _, _, .ins h k r, d => .ins (cut_at hq h (h3 _ _ _)) k (Reps.cut hq h1 h2 h3 h4 r d)
theorem Reps.cut (hq : G q = some u) (h1 : ∀ xs, HO.tup xs ≠ u) (h2 : ∀ xs, HO.lst xs ≠ u) (h3 : ∀ c d fs, HO.ins c d fs ≠ u) (h4 : ∀ o v, HO.frz o v ≠ u) : ∀ {ps : List PV} {vs : List V}, Reps F G ps vs → noDs ps = true → Reps F (cut G q) ps vs
  | _, _, .nil, _ => .nil
  | _, _, .cons h r, d => by
    have d2 := Bool.and_eq_true_iff.mp (show (noD _ && noDs _) = true from d)
    exact .cons (Rep.cut hq h1 h2 h3 h4 h d2.1) (Reps.cut hq h1 h2 h3 h4 r d2.2)
end
end
theorem grow_cut {G H G' H' : Hp} {q : Addr} {o : HO} (nq : G q = none) (g : Grow (upd G q o) H G' H') : Grow G H (cut G' q) H' := by
  refine ⟨g.all, fun b u h => ?_, fun b u h => ?_, fun b u h h0 => ?_⟩
  · unfold cut
    have n : b ≠ q := ne_of_none h nq
    rw [if_neg n]
    exact g.gle b u (by rw [upd_ne n]; exact h)
  · unfold cut at h
    split at h
    · cases h
    · exact g.sub b u h
  · unfold cut at h
    split at h
    · cases h
    · rename_i n
      exact g.new b u h (by rw [upd_ne n]; exact h0)
def dCallB (i : Nat) (φ : List PV → FR) (d : DE) : DE := fun ρ => (d ρ).bind fun z ρ => if isDkM ρ i = true then (match slotM ρ i with
    | some c => (match φ [z, c] with
      | .ok r => if noD r = true then .ok r ρ else .stuck
      | _ => .stuck)
    | none => .stuck) else .stuck
theorem pcb {k i : Nat} {φ : List PV → FR} {x y : Str} {p p1 : Pos} {d : DE} (h : FnH X.prog X.w X.K X.mg X.base k x (spP F 2 φ)) (tk : Takes X W) (hr : RoomG k X.A) (hg : Gl X x) (hv : PE X (.Name y p1) (tVar i)) (ha : PE X e (tE F io W d)) (hdb : (x == ("__debug__" : Str)) = false := by decide)
    (he : starEach [e, .Name y p1] X.env = (false, eval e X.env) :: starEach [.Name y p1] X.env := by rfl) (he2 : starEach [.Name y p1] X.env = (false, eval (.Name y p1) X.env) :: starEach [] X.env := by rfl) (hpl : (backTo pos (starEach [.Name y p1] X.env)).any (·.1) = false := by rfl) :
    PE X (.Call (.Name x p) [e, .Name y p1] [] pos) (tE F io W (dCallB i φ d)) := by
  obtain ⟨f, fd, ps, hm, hk, hb, Gf⟩ := h
  refine (pe_callG (E := fun σ => WE W σ) Gf hr hg hm hk hb (fun σ => passAt tk σ) (pa_cons ha (pa_cons hv pa_nil he2) he) hdb he hpl).imp fun σ H Q ⟨G, Fr, ρ, S, q⟩ => ?_
  refine tD.step S q fun v H1 G1 ρ1 z e1 S1 r1 q1 => ?_
  by_cases l : isDkM ρ1 i = true
  · rw [if_pos l] at q1
    obtain ⟨ks, vs, em⟩ := dkM_at l
    obtain ⟨a, h1, h2, h3, h4, _⟩ := slotM_at S1 em
    refine ⟨.ref a, h1, ?_⟩
    rw [em] at q1
    obtain ⟨kvs, g1, g2, g3⟩ := own_dk h4
    have sD : Same G1 (upd G1 a (.dK kvs)) := same_upd h2
    have sub : Same (upd G1 a (.dK kvs)) H1 := fun b u h => by
      by_cases c : b = a
      · subst c
        rw [upd_same] at h
        cases h
        exact g1
      · rw [upd_ne c] at h
        exact S1.sub b u h
    refine ⟨rfl, upd G1 a (.dK kvs), [z, .dks ks vs], sub, .cons (r1.same sD) (.cons (h4.frozen g1 ⟨.none, none, .fields #[], #[]⟩ sD) .nil), ?_⟩
    have q1 : Post (Rep F) F io W Fr G1 σ Q (match φ [z, .dks ks vs] with
      | .ok r => if noD r = true then .ok r ρ1 else .stuck
      | _ => .stuck) := q1
    cases ef : φ [z, .dks ks vs] with
    | ok r =>
      rw [ef] at q1
      intro v' G' H' g rr
      by_cases nd : noD r = true
      · have q1 : Post (Rep F) F io W Fr G1 σ Q (if noD r = true then .ok r ρ1 else .stuck) := q1
        rw [if_pos nd] at q1
        have gc := grow_cut h2 g
        exact q1 v' _ _ gc.gle (S1.grow gc) (rr.cut (g.gle a _ upd_same) (fun _ h => by cases h) (fun _ h => by cases h) (fun _ _ _ h => by cases h) (fun _ _ h => by cases h) nd)
      · have q1 : Post (Rep F) F io W Fr G1 σ Q (if noD r = true then .ok r ρ1 else .stuck) := q1
        rw [if_neg nd] at q1
        exact q1.elim
    | exc c as => rw [ef] at q1; exact q1.elim
    | stuck => rw [ef] at q1; exact q1.elim
  · rw [if_neg l] at q1
    exact q1.elim
end
end Pl

set_option maxHeartbeats 4000000
/-! P12: the error with a field (BadLine.line): made, raised, caught (skeleton 42 turned to this text). -/
namespace PySem
namespace LowLn
open PySem.W PySem.Calls PyProof.Rows PySem.HandSPX
/-! ### the text of __init__ -/
def iA (p1 p2 : Pos) : Arguments := { posonlyargs := [], args := [{ arg := "self", annotation := none, pos := p1 }, { arg := "line", annotation := none, pos := p2 }], vararg := none, kwonlyargs := [], kw_defaults := [], kwarg := none, defaults := [] }
def iB (q1 q2 q3 q4 : Pos) : List Stmt := [.Assign [.Attribute (.Name "self" q1) "line" q2] (.Name "line" q3) q4]
def iS : Scope := { kind := .function, names := [(PySem.Str.ofString "self", .local), (PySem.Str.ofString "line", .local)], isGenerator := false, isCoroutine := false, more := [] }
/-- what the written part says of Low, at C, and of its __init__, at fI -/
structure LowTxt (K : Frag) (mg : Str → Option Value) (C fI : Addr) : Prop where
  gC : mg "BadLine" = some (.ref C)
  cls : ∃ nm q N bs bm sn sub ab col dd k0 k1 k2 k3 k5, K.lookup C = some (excClassObj nm q C N bs bm true sn sub ab col dd k0 k1 k2 k3 k5 "ValueError.__new__") ∧ refsVE bm = true
  sa : findIn K (.ref C) "__setattr__" = some (some (.builtin "object.__setattr__"))
  ga : findIn K (.ref C) "__getattribute__" = some (some (.builtin "BaseException.__getattribute__"))
  gg : findIn K (.ref C) "__getattr__" = some none
  noN : findIn K (.ref C) "line" = some none
  iC : findIn K (.ref C) "__init__" = some (some (.ref fI))
  tC : typeIn K (.ref fI) = some (.type "function")
  kC : keepIn K (.ref C) = true
  exC : subIn K (.ref C) (.type "BaseException") = some true
  tyC : typeIn K (.ref C) = some (.type "type")
  hdC : hasDictIn K C = true
  te : exmOne K (.ref C) (.ref C) = some true
  fn : ∃ (kV oc : Value) (od : Option Addr) (doc pm : Value) (an : Option Addr) (cdv ct : Value) (osl : Array (Option Value)) (p1 p2 q1 q2 q3 q4 : Pos),
    K.lookup fI = some ⟨oc, od, .func (fnOf "__init__" "BadLine.__init__" (iA p1 p2) (iB q1 q2 q3 q4) iS .none kV doc pm an cdv ct), osl⟩ ∧ codeIn K cdv "BadLine.__init__" = true
theorem one_size (v : Value) : [v].length ≤ sizeLine := by
  rw [sizeLine_eq]
  exact (by decide : 1 ≤ 16777216)
theorem kept_but {K : Frag} {h h' : Heap} {x : Addr} (X : K.In h) (hx : K.lookup x = none) (k : ∀ b o, b ≠ x → h.get? b = some o → h'.get? b = some o) : K.In h' := fun a o e =>
  k a o (fun z => by rw [z, hx] at e; cases e) (X a o e)
theorem ldC {M : Model} {s : Shared} {name : Str} {scope : Scope} {L a : Addr} {cd : Value} {m : Str → Option Value} {x : Str} {pos : Pos} {v : Value} {Q : Value → Shared → Prop} {A : Around} {E : Value → Shared → Prop} (hn : s.heap.Ns L m) (hv : m x = some v) (h : Q v s)
    (hk : scope.kind = .function := by rfl) (hl : (envOfC name scope L a cd).kindOf x = some .local := by rfl) (hd : (x == ("__debug__" : Str)) = false := by decide) :
    wpAny M A (eval (.Name x pos) (envOfC name scope L a cd)) Q E s := wpAny_Name (wpAny_loadName_local hk hl hn hv h) hd
/-- what __init__ leaves of a fresh exception at x -/
structure InitEnd (h h' : Heap) (x C dx t1 : Addr) (v : Value) : Prop where
  keep : ∀ b o, b ≠ x → h.get? b = some o → h'.get? b = some o
  obj : h'.get? x = some { cls := .ref C, dict := some dx, data := .fields #[.ref t1, .none, .none, .none, .bool false, .none] }
  dbig : h.objs.size ≤ dx
  dne : dx ≠ x
  ns : h'.Ns1 dx (fun y => if y = "line" then some v else none)
/-- a made Low -/
structure OwnMade (h h' : Heap) (e C d : Addr) (v : Value) : Prop where
  keep : ∀ b o, h.get? b = some o → h'.get? b = some o
  new : h.objs.size ≤ e
  obj : ∃ oe vs, h'.get? e = some oe ∧ oe.cls = .ref C ∧ oe.dict = some d ∧ oe.data = .fields vs ∧ vs[1]? = some .none
  dbig : h.objs.size ≤ d
  dne : d ≠ e
  ns : h'.Ns1 d (fun y => if y = "line" then some v else none)
section
variable {prog : Program} {w : World} {A : Around} {E : Value → Shared → Prop} {R : Result → Shared → Prop} {s : Shared} {K : Frag} {mg : Str → Option Value} {C fI : Addr}
theorem low_init (T : LowTxt K mg C fI) {x t0 : Addr} {v : Value} (X : K.In s.heap) (hlim : s.heap.NoLimit) (hx : s.heap.get? x = some (excO C t0)) (hnx : K.lookup x = none) (hroom : A.depth < recursionLimit)
    (hq : ∀ h' tk dx, InitEnd s.heap h' x C dx t0 v → R (.ok (.ret .none)) { s with heap := h', toks := tk }) :
    codeAny (model prog w) A (.call (.ref fI) ⟨[.ref x, v], []⟩) R s := by
  obtain ⟨kV, oc, od, doc, pm, an, cdv, ct, osl, p1, p2, q1, q2, q3, q4, ho, hcd⟩ := T.fn
  obtain ⟨nm, q, N, bs, bm, sn, sub, ab, col, dd, k0, k1, k2, k3, k5, hC, hbm⟩ := T.cls
  have hcl : clsIn K C = some { name := nm, bases := bs, mro := .ref C :: bm, ns := N, qualname := q, hasDict := true, slotNames := sn, subclasses := sub, abstract := ab, collection := col, hasDel := false } := by unfold clsIn; rw [hC] <;> rfl
  refine Att.call_fn (binds := [("self", .ref x), ("line", v)]) X hlim ho hcd hroom (BindsTo.of_eq (by first | rfl | with_unfolding_all rfl)) (by first | rfl | decide | with_unfolding_all rfl) (fun s₁ IC => ?_) rfl rfl rfl
  obtain ⟨h₁, tk₁, rfl⟩ := IC.toInCall.same
  have k : ∀ b o, s.heap.get? b = some o → h₁.get? b = some o := IC.toInCall.keep
  have hn := IC.toInCall.ns
  have hxL : s.heap.objs.size ≠ x := Nat.ne_of_gt (Heap.lt_size hx)
  have X₁ : K.In h₁ := X.keeps k
  have hx₁ := k _ _ hx
  -- self.line = line
  show wpAny _ _ (execs _ _) _ _ _
  refine wpAny_execs_cons (plainObj_wpAny_Assign_Attribute ?_)
  refine ldC (v := v) hn (by first | rfl | with_unfolding_all rfl | kernel_rfl) (ldC (v := .ref x) hn (by first | rfl | with_unfolding_all rfl | kernel_rfl) ?_)
  refine set_plain X₁ (ox := excO C t0) (od := none) ⟨hx₁, rfl, rfl, trivial⟩ T.sa ?_
  refine exc_osa X₁ hx₁ hcl (show refsVE (.ref C :: bm) = true from hbm) rfl T.noN (fun h₃ tk₃ dx k₃ dn dne hx₃ hn₃ => ?_)
  show wpAny _ _ (execs _ _) _ _ _
  have z : s.heap.objs.size < h₁.objs.size := hn.lt
  exact wpAny_execs_nil (hq h₃ tk₃ dx ⟨fun b o hb e => k₃ b o hb (k b o e), hx₃, Nat.le_of_lt (Nat.lt_of_lt_of_le z dn), dne, hn₃⟩)
theorem low_made (T : LowTxt K mg C fI) {v : Value} (X : K.In s.heap) (hlim : s.heap.NoLimit) (hroom : A.depth + 1 < recursionLimit)
    (hq : ∀ h' tk e d, OwnMade s.heap h' e C d v → R (.ok (.ret (.ref e))) { s with heap := h', toks := tk }) :
    codeAny (model prog w) A (.call (.ref C) ⟨[v], []⟩) R s := by
  obtain ⟨nm, q, N, bs, bm, sn, sub, ab, col, dd, k0, k1, k2, k3, k5, hC, hbm⟩ := T.cls
  obtain ⟨hp, g, dr, tk, os⟩ := s
  have k : ∀ b o, hp.get? b = some o → ((hp.push (kdv_tup [v])).push (excO C hp.objs.size)).get? b = some o := fun b o e => Heap.get?_push_of_some _ (Heap.get?_push_of_some _ e)
  have hget : ((hp.push (kdv_tup [v])).push (excO C hp.objs.size)).get? (hp.objs.size + 1) = some (excO C hp.objs.size) := by heap_get
  have hnx : K.lookup (hp.objs.size + 1) = none := by
    cases e : K.lookup (hp.objs.size + 1) with
    | none => rfl
    | some o =>
      have z : hp.get? (hp.objs.size + 1) = some o := X _ _ e
      exact absurd (Nat.lt_of_succ_lt (Heap.lt_size z)) (Nat.lt_irrefl _)
  refine call_own F.excBase_ValueError (fun X => refsVE_contains X bm hbm) (X _ _ hC) (looks_findIn X T.iC) (fun self => bind_fn X self T.tC) (one_size v) ?_
  refine low_init (s := ⟨(hp.push (kdv_tup [v])).push (excO C hp.objs.size), g, dr, tk, os⟩) T (X.keeps k) (hlim.keeps k) hget hnx ?_ fun h' tk' dx ⟨k', hx, dn, dne, hns⟩ => ?_
  · show A.depth + 1 < recursionLimit
    exact hroom
  · have old : ∀ b o, hp.get? b = some o → h'.get? b = some o := fun b o e => k' b o (Nat.ne_of_lt (Nat.lt_succ_of_lt (Heap.lt_size e))) (k b o e)
    have z : hp.objs.size + 1 + 1 ≤ dx := by
      first
        | (simpa only [Heap.size_push] using dn)
        | exact dn
        | (have q := dn; rw [Heap.size_push, Heap.size_push] at q; exact q)
    exact ⟨rfl, hq h' tk' (hp.objs.size + 1) dx ⟨old, Nat.le_succ _, ⟨_, _, hx, rfl, rfl, rfl, rfl⟩, Nat.le_trans (Nat.le_trans (Nat.le_succ _) (Nat.le_succ _)) z, dne, hns⟩⟩
end
end LowLn
end PySem
namespace L2
open PySem PySem.Spec PyProof.Rows
theorem relO_low {v : V} {v' : Value} (r : RelV v v') (f : Str) : RelO (List.lookup f [(("line" : Str), v)]) (if f = "line" then some v' else none) := by
  by_cases hw : f = "line"
  · subst hw
    rw [if_pos rfl]
    have q : List.lookup ("line" : Str) [(("line" : Str), v)] = some v := by simp [List.lookup]
    rw [q]
    exact r
  · rw [if_neg hw]
    have qw : (f == ("line" : Str)) = false := by simpa using hw
    have q2 : List.lookup f [(("line" : Str), v)] = none := by simp [List.lookup, qw]
    rw [q2]
    trivial
section
variable {X : Cx} {C fI : Addr}
/-- Low(e) -/
def tMkLow (C : Addr) (ta : TA) : St → Hp → XK → Prop := fun σ H Q => ta σ H fun vs H1 => ∃ v, vs = [v] ∧ ∀ d, H1 d = none → Q (.ref C) (some d) (upd H1 d (.xd [(("line" : Str), v)]))
theorem pmk_low {a : Expr} {ta : TA} {p pos : Pos} {k : Nat} (T : PySem.LowLn.LowTxt X.K X.mg C fI) (hr : Room k X.A) (ha : PA X [a] ta) (hg : Gl X "BadLine" := by rfl)
    (he : starEach (a :: []) X.env = (false, eval a X.env) :: starEach [] X.env := by rfl) (hpl : (backTo pos (starEach [] X.env)).any (·.1) = false := by rfl) :
    PMk X (.Call (.Name "BadLine" p) [a] [] pos) (tMkLow C ta) := by
  intro pins s σ H Q I h
  refine wpAny_Call_Name_kw (ld_glob I hg T.gC ?_)
  refine PySem.W.callWith_K (h₀ := X.base) I.ok.mod.kin T.kC (thn (ha.run pos pins s σ H _ I h) fun us s1 hh => ?_) he hpl
  obtain ⟨vs, H1, I1, r1, v, ev, q1⟩ := hh
  subst ev
  refine ⟨I1.kIn, ?_⟩
  cases r1 with
  | cons rv rn =>
    rename_i v' us'
    cases rn
    show wpAny _ _ (call (.ref C) [v']) _ _ _
    have hlim := I1.nolimit
    obtain ⟨hp, g, dr, tk, os⟩ := s1
    refine wpAny_call (PySem.LowLn.low_made T I1.kIn hlim (by have := hr.dp; omega) fun h' tk' e d M => ?_)
    show MkP X pins σ Q (.ref e) ⟨h', g, dr, tk', os⟩
    obtain ⟨oe, fv, hoe, hc, hd, hdat, h1⟩ := M.obj
    have hns := M.ns
    obtain ⟨G', g1, g2⟩ := restrict h' fun b => decide (b ≠ e)
    have gk : ∀ b, b ≠ e → G'.get? b = h'.get? b := fun b hb => g1 b (decide_eq_true hb)
    have ge : G'.get? e = none := g2 e (by simp)
    have old : ∀ b o, hp.get? b = some o → G'.get? b = some o := fun b o q => (gk b (Nat.ne_of_lt (Nat.lt_of_lt_of_le (Heap.lt_size q) M.new))).trans (M.keep b o q)
    have ob : ObjOk X.prog X.w (upd H1 d (.xd [(("line" : Str), v)])) G' d (.xd [(("line" : Str), v)]) :=
      ⟨_, hns.at (fun o q => (gk d M.dne).trans q), fun f => relO_low rv f⟩
    have J : Inv X pins σ (upd H1 d (.xd [(("line" : Str), v)])) ⟨G', g, dr, tk', os⟩ := I1.laid (t' := tk') old M.dbig ob
    refine ⟨e, oe, fv, ⟨G', g, dr, tk', os⟩, _, .ref C, some d, rfl, J, fun b o q => ?_, ge, hoe, ⟨hc, hd⟩, hdat, h1, ?_, rfl, I1.bare, raises_own T.exC T.tyC, q1 d (I1.hok.fresh M.dbig)⟩
    · by_cases hb : b = e
      · have q' : G'.get? b = some o := q
        rw [hb, ge] at q'; cases q'
      · exact (gk b hb).symm.trans q
    · rw [upd_ne (Ne.symm M.dne)]
      exact I1.hok.fresh M.new
/-- raise Low(e) -/
def tRaiseLow (C : Addr) (W : WX) (ta : TA) : TS := fun _ σ H => tMkLow C ta σ H fun cls d H' => W cls d σ H'
theorem ps_raiseLow {a : Expr} {ta : TA} {W : WX} {p pos pos2 : Pos} {k : Nat} (hc : X.calm = true) (T : PySem.LowLn.LowTxt X.K X.mg C fI) (hr : Room k X.A) (tk : Takes X W) (ha : PA X [a] ta) (hg : Gl X "BadLine" := by rfl)
    (he : starEach (a :: []) X.env = (false, eval a X.env) :: starEach [] X.env := by rfl) (hpl : (backTo pos (starEach [] X.env)).any (·.1) = false := by rfl) :
    PS X (.Raise (some (.Call (.Name "BadLine" p) [a] [] pos)) none pos2) (tRaiseLow C W ta) := ps_raise hc tk (pmk_low T hr ha hg he hpl)
/-- low.by, low the exception that the suite holds (at a; its class cls, its dict d) -/
def tByLow (C : Addr) (a : Addr) (cls : Value) (d : Option Addr) (te : TE) : TE := fun σ H Q => te σ H fun x H1 => x = .ref a ∧ cls = .ref C ∧ ∃ (dd : Addr) (v : V), d = some dd ∧ H1 dd = some (.xd [(("line" : Str), v)]) ∧ Q v H1
theorem pe_byLow {a : Addr} {oe : Obj} {cls : Value} {d : Option Addr} {pn : List (Addr × Obj)} {e : Expr} {te : TE} {pos : Pos} (T : PySem.LowLn.LowTxt X.K X.mg C fI) (hz : Zc cls d oe) (hf : ∃ vs, oe.data = .fields vs) (he : PE (X.suite a ((a, oe) :: pn)) e te)
    (hb : attributeBase e "line" X.env (eval e X.env) = eval e X.env := by rfl) :
    PE (X.suite a ((a, oe) :: pn)) (.Attribute e "line" pos) (tByLow C a cls d te) := by
  refine ⟨fun pins s σ H Q I h => ?_⟩
  refine attr_of hb (thn (he.run pins s σ H _ I h) fun u s1 hh => ?_)
  obtain ⟨x, H1, I1, rx, ex, ec, dd, v, ed, ea, q⟩ := hh
  subst ex
  obtain rfl : u = Value.ref a := rx
  subst ec
  subst ed
  obtain ⟨ha, _⟩ := I1.pin (a, oe) (List.mem_append_left _ List.mem_cons_self)
  obtain ⟨vs, hd⟩ := hf
  have hx : ObjOk X.prog X.w H1 s1.heap dd (.xd [(("line" : Str), v)]) := I1.hok dd _ ea
  obtain ⟨mA, hns, hr⟩ := hx
  obtain ⟨od, ho, hl⟩ := lookIn_ns hns
  have l : List.lookup ("line" : Str) [(("line" : Str), v)] = some v := by simp [List.lookup]
  obtain ⟨u, hu, ru⟩ := RelO.some_of (v := v) (o := mA "line") (by rw [← l]; exact hr "line")
  have J : PySem.W.InstAt s1.heap a oe C (some od) := ⟨ha, hz.1, by unfold PySem.W.notCls; rw [hd] <;> rfl, by rw [hz.2]; exact ho⟩
  exact HandSPX.exc_get I1.kIn J T.ga T.gg T.exC (PySem.W.findObj_own T.hdC T.noN rfl (by rw [hl, hu])) (handed_of ru) ⟨v, H1, I1.tok _, ru, q⟩
end
end L2
namespace Pl
open PySem PySem.Spec PyProof.Rows L2 RZ
def lowC (K : PySem.W.Frag) (C : Addr) : Bool := match K.lookup C with
  | some ⟨.type "type", _, .cls cd, sl⟩ => (match cd.mro, sl.toList with
    | .ref C' :: bm, [_, _, _, _, some (.builtin n), _] => C' == C && (n == "ValueError.__new__" && (!cd.hasDel && (cd.hasDict && PySem.HandSPX.refsVE bm)))
    | _, _ => false)
  | _ => false
theorem lowC_ok {K : PySem.W.Frag} {C : Addr} (q : lowC K C = true) : ∃ nm q N bs bm sn sub ab col dd k0 k1 k2 k3 k5, K.lookup C = some (excClassObj nm q C N bs bm true sn sub ab col dd k0 k1 k2 k3 k5 "ValueError.__new__") ∧ PySem.HandSPX.refsVE bm = true := by
  unfold lowC at q
  split at q
  · rename_i dd cd sl ho
    split at q
    · rename_i C' bm k0 k1 k2 k3 n k5 hm hs
      simp only [Bool.and_eq_true, beq_iff_eq, Bool.not_eq_true'] at q
      obtain ⟨rfl, rfl, hdel, hdc, hb⟩ := q
      obtain ⟨nm, bs, mro, ns, qn, hd, sn, sub, ab, col, del⟩ := cd
      dsimp only at hm hdel hdc
      subst hm hdel hdc
      have hsl : sl = #[k0, k1, k2, k3, some (.builtin "ValueError.__new__"), k5] := by
        rw [← Array.toArray_toList (xs := sl), hs]
      subst hsl
      exact ⟨nm, qn, ns, bs, bm, sn, sub, ab, col, dd, k0, k1, k2, k3, k5, ho, hb⟩
    · cases q
  · cases q
/-- the facts of BadLine, as one check -/
def lineB (K : PySem.W.Frag) : Bool := lowC K (He.ga K "BadLine") && (decide (PySem.W.findIn K (.ref (He.ga K "BadLine")) "__setattr__" = some (some (.builtin "object.__setattr__"))) &&
  (decide (PySem.W.findIn K (.ref (He.ga K "BadLine")) "__getattribute__" = some (some (.builtin "BaseException.__getattribute__"))) && (decide (PySem.W.findIn K (.ref (He.ga K "BadLine")) "__getattr__" = some none) &&
  (decide (PySem.W.findIn K (.ref (He.ga K "BadLine")) "line" = some none) && (decide (PySem.W.findIn K (.ref (He.ga K "BadLine")) "__init__" = some (some (.ref (He.ma K (He.ga K "BadLine") "__init__")))) &&
  (decide (PySem.W.typeIn K (.ref (He.ma K (He.ga K "BadLine") "__init__")) = some (.type "function")) && (PySem.W.keepIn K (.ref (He.ga K "BadLine")) && (decide (PySem.W.subIn K (.ref (He.ga K "BadLine")) (.type "BaseException") = some true) &&
  (decide (PySem.W.typeIn K (.ref (He.ga K "BadLine")) = some (.type "type")) && (PySem.W.hasDictIn K (He.ga K "BadLine") && decide (PySem.W.exmOne K (.ref (He.ga K "BadLine")) (.ref (He.ga K "BadLine")) = some true)))))))))))
theorem low_of {K : PySem.W.Frag} {mg : Str → Option Value} {fd : FuncData} {st : Stmt} {p1 p2 q1 q2 q3 q4 : Pos} (g : mg "BadLine" = some (.ref (He.ga K "BadLine"))) (c : lineB K = true)
    (FD : FunD K "__init__" "BadLine.__init__" (defArgs st) (defBody st) (defScope st) [] [] (He.ma K (He.ga K "BadLine") "__init__") fd)
    (e1 : defArgs st = PySem.LowLn.iA p1 p2) (e2 : defBody st = PySem.LowLn.iB q1 q2 q3 q4) (e3 : defScope st = PySem.LowLn.iS) : PySem.LowLn.LowTxt K mg (He.ga K "BadLine") (He.ma K (He.ga K "BadLine") "__init__") := by
  unfold lineB at c
  simp only [Bool.and_eq_true, decide_eq_true_eq] at c
  obtain ⟨c1, c2, c3, c4, c5, c6, c7, c8, c9, c10, c11, c12⟩ := c
  refine ⟨g, lowC_ok c1, c2, c3, c4, c5, c6, c7, c8, c9, c10, c11, c12, ?_⟩
  obtain ⟨oc, od, dV, kV, doc, pm, an, cdv, ct, osl, e, lk, hcd, h1, h2⟩ := FD.ex
  rw [e1, e2, e3] at e
  subst e
  rcases h1 with ⟨_, rfl⟩ | ⟨h, _⟩
  · exact ⟨kV, oc, od, doc, pm, an, cdv, ct, osl, p1, p2, q1, q2, q3, q4, lk, hcd⟩
  · exact absurd rfl h
section
variable {X : Cx} {F : Fx} {io : Option Addr} {W : WX} {a b o e : Expr} {es : List Expr} {pos : Pos}
/-! ### raise BadLine(e) -/
def sRaiseA (c : Nat) (d : DE) : DS := fun ρ => (d ρ).toOut fun x ρ => .exc c [x] ρ
theorem st_raiseA {fI : Addr} {c k : Nat} {d : DE} {p pos2 : Pos} (hc : X.calm = true) (hf : F.fld c = ([("line" : Str)])) (T : PySem.LowLn.LowTxt X.K X.mg (F.cls c) fI) (hr : RoomG k X.A) (tk : Takes X W) (h : PE X a (tE F io W d)) (hg : Gl X "BadLine" := by rfl)
    (he : starEach (a :: []) X.env = (false, eval a X.env) :: starEach [] X.env := by rfl) (hpl : (backTo pos (starEach [] X.env)).any (·.1) = false := by rfl) : PS X (.Raise (some (.Call (.Name "BadLine" p) [a] [] pos)) none pos2) (tS F io W (sRaiseA c d)) := by
  refine (ps_raiseLow hc T hr.toRoom tk (pa_cons h pa_nil he) hg he hpl).imp fun D σ H ⟨G, Fr, ρ, S, q⟩ => ?_
  refine tD.stepS S q fun v H1 G1 ρ1 x e1 S1 r1 q1 => ?_
  exact ⟨v, rfl, fun dd nd => q1 (some dd) σ G1 _ (Same.refl _) (S1.grow (Grow.new0 S1.sub nd)) ⟨dd, [("line", v)], rfl, upd_same, hf.symm, .cons r1 .nil⟩⟩
/-! ### try: .. except BadLine as e: x = e.line -/
def lineK (c i j : Nat) (c' : Nat) (ρ' : Rho) : List PV → Out
  | [x] => if c' = c ∧ i < ρ'.length then .nx ((ρ'.set j (some (.val x))).set i none) else .stuck
  | _ => .stuck
def sTryL (c i j : Nat) (sub : Nat → Nat → Bool) (n : List Nat) (d : DS) : DS := fun ρ => match d ρ with
  | .exc c' as ρ' => if n.contains c' = true then (if sub c' c = true then lineK c i j c' ρ' as else .exc c' as ρ') else .stuck
  | o => o
theorem StOk.named {G Fr H : Hp} {σ : L2.St} {ρ : Rho} {i : Nat} {w : Option V} (S : StOk F io G Fr H σ ρ) : StOk F io G Fr H (σ.set i w) (ρ.set i none) := S.wipe1
theorem st_tryL {fI : Addr} {c i j : Nat} {sub : Nat → Nat → Bool} {n : List Nat} {x y : Str} {d : DS} {body : List Stmt} {np pos' p1 p2 p3 p4 : Pos} (hK : F.K = X.K) (hf : F.fld c = ([("line" : Str)])) (hij : i ≠ j) (hsub : SubOk F n sub) (hk : n.contains c = true) (T : PySem.LowLn.LowTxt X.K X.mg (F.cls c) fI) (hst : X.stack = X.env :: X.outer) (hfr : X.env.frame = some X.env.locals) (hN : X.N.Nodup) (hi : X.N[i]? = some x) (hln : X.env.kindOf x = some .local)
    (hj : X.N[j]? = some y) (hy : L2.Loc X.env.scope y) (hc : Names X "BadLine" (.ref (F.cls c))) (tk : Takes X W) (hv : ∀ (a : Addr) (oe : Obj) (pn : List (Addr × Obj)), PE (X.suite a ((a, oe) :: pn)) (.Name x p1) (tVar i))
    (hb : ∀ (W : WX) (pn : List (Addr × Obj)) (xe : Value → Shared → Prop), Takes (X.tr pn xe) W → PSs (X.tr pn xe) body (tS F io W d))
    (hsw : swapsWith (.Attribute (.Name x p1) "line" p2) (some (.Name y p3)) p4.line X.env = pure false := by rfl) (hfn : X.fn y = true ∨ X.env.scope.names.lookup y = some .local := by first | exact .inl rfl | exact .inr rfl | assumption) (hab : attributeBase (.Name x p1) "line" X.env (eval (.Name x p1) X.env) = eval (.Name x p1) X.env := by rfl) :
    PS X (.Try body [.ExceptHandler (some (.Name "BadLine" np)) (some x) [.Assign [.Name y p3] (.Attribute (.Name x p1) "line" p2) p4] pos'] [] [] pos) (tS F io W (sTryL c i j sub n d)) := by
  refine (ps_try_as (tb := fun W => tS F io W d) (ts := fun a cls dd => tAsg (tByLow (F.cls c) a cls dd (tVar i)) (gName j)) hst hfr hN hi hln hc tk (fun W pn xe tk _ => hb W pn xe tk) (fun a oe cls dd pn hz hfl => pss_one (ps_set (i := j) hN hj hy (pe_byLow T hz hfl (hv a oe pn) hab) hsw hfn))).imp fun D σ H ⟨G, Fr, ρ, S, q⟩ => ?_
  refine ⟨G, Fr, ρ, S, ?_⟩
  unfold sTryL at q
  cases ed : d ρ with
  | nx ρ1 => rw [ed] at q; exact q
  | rt p ρ1 => rw [ed] at q; exact q
  | stuck => rw [ed] at q; exact q
  | exc c' as ρ1 =>
    rw [ed] at q
    intro dd σ' G' H' e S' xa
    have q : PostS F io W Fr G D (if n.contains c' = true then (if sub c' c = true then lineK c i j c' ρ1 as else .exc c' as ρ1) else .stuck) := q
    by_cases l : n.contains c' = true
    · rw [if_pos l] at q
      refine ⟨sub c' c, by rw [← hK]; exact hsub c' c l hk, fun eb a na => ?_, fun eb => ?_⟩
      · rw [if_pos eb] at q
        cases as with
        | nil => exact q.elim
        | cons x rest =>
          cases rest with
          | cons => exact q.elim
          | nil =>
            have q5 : PostS F io W Fr G D (if c' = c ∧ i < ρ1.length then .nx ((ρ1.set j (some (.val x))).set i none) else .stuck) := q
            by_cases z : c' = c ∧ i < ρ1.length
            · rw [if_pos z] at q5
              obtain ⟨zc, hl⟩ := z
              subst zc
              obtain ⟨p, fs, rfl, hp, hn, r⟩ := xa
              rw [hf] at hn
              cases fs with
              | nil => cases hn
              | cons f0 fs =>
                obtain ⟨g, v⟩ := f0
                cases fs with
                | cons => cases hn
                | nil =>
                  have hg : g = "line" := (List.cons.inj hn).1
                  subst hg
                  cases r with
                  | cons r0 r1 =>
                    have hl2 : i < σ'.length := by rw [← S'.len]; exact hl
                    refine ⟨.ref a, List.getElem?_set_self hl2, rfl, rfl, p, v, rfl, hp, ?_⟩
                    have S2 := (S'.set_val (i := j) r0).wipe1 (i := i) (w := none)
                    have e3 : ((σ'.set i (some (V.ref a))).set j (some v)).set i none = (σ'.set j (some v)).set i none := by
                      rw [List.set_comm _ _ hij, List.set_set]
                    show D.nx (((σ'.set i (some (V.ref a))).set j (some v)).set i none) H'
                    rw [e3]
                    exact q5 _ _ _ e S2
            · rw [if_neg z] at q5
              exact q5.elim
      · rw [if_neg (by rw [eb]; exact Bool.false_ne_true)] at q
        exact q dd σ' G' H' e S' xa
    · rw [if_neg l] at q
      exact q.elim
end
end Pl

set_option maxHeartbeats 4000000
/-! P13: {'a': x, 'b': y}.get(z, w). -/
namespace Pl
open PySem PySem.Spec PyProof.Rows L2 RZ
section
variable {X : Cx} {F : Fx} {io : Option Addr} {W : WX} {a b e : Expr} {es : List Expr} {pos apos cpos : Pos}
def dPickG (ds : List (Str × DE)) (dk dd : DE) : DE := fun ρ => (dVals ds ρ).bind fun kvs ρ => (dk ρ).bind fun k ρ => (dd ρ).bind fun x ρ => match k with
  | .str z => .ok ((kvs.lookup z).getD x) ρ
  | _ => .stuck
theorem valV_prK_none {z : Str} : ∀ {qs : List (Str × PV)} {us : List V}, qs.length = us.length → qs.lookup z = none → valV (prK qs us) (Sum.inr z) = none
  | q :: qs, u :: us, hl, e => by
    have e : (match z == q.1 with
      | true => some q.2
      | false => List.lookup z qs) = none := e
    by_cases c : z = q.1
    · subst c
      rw [beq_self_eq_true] at e
      cases e
    · rw [beq_eq_false_iff_ne.mpr c] at e
      have h1 := valV_prK_none (qs := qs) (us := us) (Nat.succ.inj hl) e
      have n : ¬ (Sum.inr q.1 : Key) = Sum.inr z := fun h => c (Sum.inr.inj h).symm
      exact (valV_neg n).trans h1
  | [], _, _, _ => rfl
  | _ :: _, [], hl, _ => by cases hl
theorem pp_pget {keys : List (Option Expr)} {values : List Expr} {ds : List (Str × DE)} {dk dd : DE} {p2 : Pos} (hu : X.A.units + 1 < cLine) (hp : PPs X p2 keys values (ds.map fun q => (tC (.str q.1), tE F io W q.2))) (hall : keys.all (·.isSome) = true) (hl : keys.length = values.length) (h0 : keys ≠ []) (h15 : keys.length ≤ 15)
    (hd15 : ds.length ≤ 15) (hnd : (ds.map (·.1)).Nodup) (h : PE X a (tE F io W dk)) (h2 : PE X b (tE F io W dd)) (m : M2 X (.Dict keys values p2) "get" apos a b cpos) : PE X (.Call (.Attribute (.Dict keys values p2) "get" apos) [a, b] [] cpos) (tE F io W (dPickG ds dk dd)) := by
  refine (pe_dget2 hu (pe_disp hp hall hl h0 h15) h h2 m).imp fun σ H Q ⟨G, Fr, ρ, S, q⟩ => ?_
  intro p np
  have nF := S.fsub.free np
  have S1 := S.grow (Grow.new0 (o := .dK []) S.sub np)
  have io0 : io ≠ some p := fun e => by
    obtain ⟨_, _, u, hu⟩ := S.iot p e
    rw [np] at hu
    cases hu
  have no0 : ∀ (j : Nat) (d : PV), ρ[j]? = some (some (SV.own d)) → σ[j]? ≠ some (some (V.ref p)) := fun j d e h1 => by
    obtain ⟨b, g1, _, _, g4, _⟩ := S.own j d e
    rw [h1] at g1
    cases g1
    obtain ⟨u, hu⟩ := g4.there
    rw [np] at hu
    cases hu
  have S0 := S1.fr_add (o := .dK []) upd_same (S.sub.free np) io0 no0
  refine pairs_step (same_upd nF) ds S0 q fun us H1 G1 ρ1 kvs e1 S1 r1 q1 hk => ?_
  have hlen : kvs.length = us.length := by simpa using r1.length
  have hkl : kvs.length = ds.length := by simpa using congrArg List.length hk
  refine ⟨S1.fsub p _ upd_same, prK kvs us, prs_map _ _, by rw [prK_len hlen, hkl]; exact hd15, ?_⟩
  have hm : mergeK [] (prK kvs us) = prK kvs us := by
    rw [merge_nodup _ _ (by
      rw [List.nil_append, prK_keys hlen]
      have e2 : (kvs.map fun q => (Sum.inr q.1 : Key)) = (ds.map (·.1)).map Sum.inr := by rw [← hk, List.map_map]; rfl
      rw [e2]
      exact List.Pairwise.map _ (fun x y h e => h (Sum.inr.inj e)) hnd)]
    rfl
  rw [hm]
  obtain ⟨a1, a2, a3⟩ := S1.apart (p := p) upd_same
  have S2 := (S1.fr (same_upd nF)).upd_at (o := .dK (prK kvs us)) a1 nF a2 a3
  have S3 := S2.fr_add (o := .dK (prK kvs us)) upd_same a1 a2 a3
  refine ⟨p, rfl, .inl ⟨_, .inl upd_same⟩, ?_⟩
  refine tD.step S3 (Post.fr (same_upd nF) q1) fun u H4 G4 ρ4 x e4 S4 r4 q4 => tD.step S4 q4 fun u5 H5 G5 ρ5 x5 e5 S5 r5 q5 => ?_
  cases r4 <;> first | exact q5.elim | skip
  case str z =>
    have q5 : Post (Rep F) F io W (upd Fr p (.dK (prK kvs us))) G5 σ Q (.ok ((kvs.lookup z).getD x5) ρ5) := q5
    cases c : kvs.lookup z with
    | none =>
      rw [c] at q5
      exact ⟨none, .inl ⟨_, Sum.inr z, .inl (S5.fsub p _ upd_same), rfl, (valV_prK_none hlen c).symm⟩, q5.done S5 r5⟩
    | some pz =>
      rw [c] at q5
      obtain ⟨v, g1, g2⟩ := valV_prK r1 c
      exact ⟨some v, .inl ⟨_, Sum.inr z, .inl (S5.fsub p _ upd_same), rfl, g1.symm⟩, q5.done S5 ((g2.same e4).same e5)⟩
/-! ### x not in TABLE -/
def pNotInT (kvs : List (Str × PV)) : PV → Option PV
  | .str z => some (.bl (!(kvs.lookup z).isSome))
  | _ => none
theorem pt_notInT {x : Str} {p2 : Pos} {d : DE} {k : Addr} {kvs : List (Str × PV)} (hK : F.K = X.K) (hw : F.w = X.w) (T : TabOk F k kvs) (hm : X.mg x = some (.ref k)) (hg : Gl X x) (h : PE X a (tE F io W d)) (hd : (x == ("__debug__" : Str)) = false := by decide) :
    PT X (.Compare a [.NotIn] [.Name x p2] pos) (tT F io W (dAsB (dUn (pNotInT kvs) d))) := by
  obtain ⟨es, n, D⟩ := T.kd
  refine (pt_cmpR (op_notIn_kd (X := X) (d := k) (es := es) (n := n) (by rw [← hK, ← hw]; exact D)) h (pe_glob (v := .ref k) hg hm rfl hd) rfl).imp fun σ H Q ⟨G, Fr, ρ, S, q⟩ => ?_
  have q : Post RB F io W Fr G σ Q (((d ρ).bind fun x ρ => ofO (pNotInT kvs x) ρ).bind fun x ρ => ofO (asB x) ρ) := q
  have eb : ((d ρ).bind fun x ρ => ofO (pNotInT kvs x) ρ).bind (fun x ρ => ofO (asB x) ρ) = (d ρ).bind fun x ρ => (ofO (pNotInT kvs x) ρ).bind fun x ρ => ofO (asB x) ρ := by cases d ρ <;> rfl
  rw [eb] at q
  refine tD.step S q fun v H1 G1 ρ1 x e1 S1 r1 q1 => ?_
  cases r1 <;> first | exact q1.elim | skip
  case str y =>
    have g := tab_get T y
    have q1 : ∀ v G' H', Same G1 G' → StOk F io G' Fr H' σ ρ1 → (!(kvs.lookup y).isSome) = v → Q v H' := q1
    cases c : kvs.lookup y with
    | none =>
      rw [c] at g q1
      exact ⟨y, none, rfl, rfl, by rw [← hK]; exact g, _, rfl, q1 _ G1 H1 (Same.refl _) S1 rfl⟩
    | some p =>
      rw [c] at g q1
      obtain ⟨u, v, h1, h2, h3⟩ := g
      exact ⟨y, some u, rfl, rfl, by rw [← hK]; exact h1, _, rfl, q1 _ G1 H1 (Same.refl _) S1 rfl⟩
/-- a written negative number -/
theorem pp_nint {i : Int} {j} {p1 : Pos} : PE X (.UnaryOp .USub (.Constant (.int i) j p1) pos) (tE F io W (dC (.int (-i)))) :=
  (pe_un un_neg pe_int).imp fun σ H Q ⟨G, Fr, ρ, S, q⟩ => ⟨i, rfl, Post.done (v := .int (-i)) q S (.int _)⟩
end
end Pl

set_option maxHeartbeats 4000000
/-! P14: repetition of texts, lists, tuples; reading a list of one's own without handing it on. -/
namespace Pl
open PySem PySem.Spec PyProof.Rows L2 RZ
section
variable {X : Cx} {F : Fx} {io : Option Addr} {W : WX} {a b e : Expr} {es : List Expr} {pos apos cpos : Pos}
theorem fold_size (c : Array Nat) : ∀ (n : Nat) (acc : Array Nat), ((List.replicate n c).foldl (· ++ ·) acc).size = acc.size + n * c.size
  | 0, acc => by simp
  | n + 1, acc => by
    rw [List.replicate_succ, List.foldl_cons, fold_size c n, Array.size_append, Nat.succ_mul]
    omega
def repS (n : Nat) (x : Str) : Str := ⟨(List.replicate n x.cps).foldl (· ++ ·) #[]⟩
def rRepS : R2 := fun x y H Q => ∃ a k, x = .str a ∧ y = .int k ∧ 1 < k ∧ k ≤ 1000 ∧ 0 < a.length ∧ a.length ≤ 1000 ∧ Q (.str (repS k.toNat a)) H
theorem op_repS : OpR X (binaryOp .Mult) rRepS := by
  intro pins s σ H x y v u Q I rx ry h
  obtain ⟨a, k, rfl, rfl, h1, h2, h3, h4, q⟩ := h
  obtain ⟨t, rfl⟩ := rx
  obtain ⟨t', rfl⟩ := ry
  have hs : sizeLine = 16777216 := sizeLine_eq
  refine PySem.P.mul_str ?_ (fun _ _ hb => ?_) (fun _ _ => ?_) ?_
  · have e1 : ¬ k < -(2 ^ 63 : Int) := by omega
    have e2 : ¬ k ≥ 2 ^ 63 := by omega
    rw [decide_eq_false e1, decide_eq_false e2]
    rfl
  · have h5 : (9223372036854775807 : Int) / 1000 ≤ (2 ^ 63 - 1) / k := by
      rw [show ((2 : Int) ^ 63 - 1) = 9223372036854775807 from by decide]
      refine (Int.le_ediv_iff_mul_le (by omega)).mpr ?_
      have : (9223372036854775807 : Int) / 1000 = 9223372036854775 := by decide
      rw [this]
      omega
    have : (9223372036854775807 : Int) / 1000 = 9223372036854775 := by decide
    omega
  · unfold Builtin.Str.tooLong
    have h6 : a.length * k.toNat ≤ 1000 * 1000 := Nat.mul_le_mul h4 (by omega)
    exact decide_eq_false (by omega)
  · have e1 : ¬ k < 1 := by omega
    rw [if_neg e1]
    have e2 : (k == 1 || a.length == 0) = false := by
      rw [Bool.or_eq_false_iff]
      exact ⟨beq_eq_false_iff_ne.mpr (by omega), beq_eq_false_iff_ne.mpr (by omega)⟩
    rw [if_neg (by rw [e2]; exact Bool.false_ne_true)]
    refine ⟨?_, .str (repS k.toNat a), H, I.tok _, ⟨_, rfl⟩, q⟩
    show ((List.replicate k.toNat a.cps).foldl (· ++ ·) #[]).size ≤ sizeLine
    rw [fold_size]
    have h6 : k.toNat * a.length ≤ 1000 * 1000 := Nat.mul_le_mul (by omega) h4
    have e0 : (#[] : Array Nat).size = 0 := rfl
    have e1 : a.cps.size = a.length := rfl
    rw [e0, e1]
    omega
def pRep : PV → PV → Option PV
  | .str a, .int k => if 1 < k ∧ k ≤ 1000 ∧ 0 < a.length ∧ a.length ≤ 1000 then some (.str (repS k.toNat a)) else none
  | .lst xs, .int k => if 0 ≤ k ∧ k ≤ 1000 ∧ xs.length ≤ 1000 then some (.lst (List.replicate k.toNat xs).flatten) else none
  | .tup xs, .int k => if 2 ≤ k ∧ k ≤ 1000 ∧ xs.length ≤ 1000 ∧ xs.isEmpty = false then some (.tup (List.replicate k.toNat xs).flatten) else none
  | _, _ => none
def rRepX (K : PySem.W.Frag) : R2 := fun x y H Q => (rRepS x y H Q ∨ rRep x y H Q) ∨ rRepT K x y H Q
theorem op_repX : OpR X (binaryOp .Mult) (rRepX X.K) := OpR.or (OpR.or op_repS op_rep) op_repT
theorem reps_rep {G : Hp} {ps : List PV} {vs : List V} (r : Reps F G ps vs) : ∀ n : Nat, Reps F G (List.replicate n ps).flatten (List.replicate n vs).flatten
  | 0 => .nil
  | n + 1 => by
    rw [List.replicate_succ, List.replicate_succ, List.flatten_cons, List.flatten_cons]
    exact r.append (reps_rep r n)
theorem b_rep (hK : F.K = X.K) : BinOk F (rRepX X.K) pRep := by
  intro G H v u x y z Q s rx ry e k
  cases rx <;> cases ry <;> first | (exfalso; cases e; done) | skip
  case str.int a i =>
    obtain ⟨⟨l1, l2, l3, l4⟩, rfl⟩ := ite_some e
    exact .inl (.inl ⟨_, _, rfl, rfl, l1, l2, l3, l4, k _ G H (Grow.refl s) (.str _)⟩)
  case lst.int xs a vs hx r i =>
    obtain ⟨⟨l1, l2, l3⟩, rfl⟩ := ite_some e
    refine .inl (.inr ⟨_, _, _, rfl, rfl, s _ _ hx, by omega, by omega, ?_, fun p n => ?_⟩)
    · rw [← r.length]
      have h6 : xs.length * i.toNat ≤ 1000 * 1000 := Nat.mul_le_mul l3 (by omega)
      have hs : sizeLine = 16777216 := sizeLine_eq
      omega
    · have sm := same_upd (o := .lst (List.replicate i.toNat vs).flatten) (s.free n)
      exact k _ _ _ (Grow.new1 s n) (.lst upd_same (reps_rep (r.same sm) _))
  case tup.int xs a vs hx r i =>
    obtain ⟨⟨l1, l2, l3, l4⟩, rfl⟩ := ite_some e
    refine .inr ⟨_, _, _, rfl, rfl, by rw [← hK]; exact SqT.same s hx, ?_, l1, l2, by rw [← r.length]; exact l3, fun p n => ?_⟩
    · rintro rfl
      cases r
      cases l4
    · have sm := same_upd (o := .tup (List.replicate i.toNat vs).flatten) (s.free n)
      exact k _ _ _ (Grow.new1 s n) (.tup (.inl (.inl upd_same)) (reps_rep (r.same sm) _))
/-! ### x[e], len(x) of a list of one's own -/
def isVal (ρ : Rho) (i : Nat) : Bool := match ρ[i]? with
  | some (some (.val _)) => true
  | _ => false
def dIxA (i : Nat) (di : DE) : DE := fun ρ => if isVal ρ i = true then dBin pIx (dVar i) di ρ else dIxM i di ρ
theorem pp_ixA {i : Nat} {x : Str} {di : DE} {p1 : Pos} {ix : Expr} (hK : F.K = X.K) (hv : PE X (.Name x p1) (tVar i)) (hi : PE X ix (tE F io W di)) (hs : PlainIx ix := by intro _ _; rfl) : PE X (.Subscript (.Name x p1) ix pos) (tE F io W (dIxA i di)) := by
  refine ⟨fun pins s σ H Q I ⟨G, Fr, ρ, S, q⟩ => ?_⟩
  unfold dIxA at q
  by_cases l : isVal ρ i = true
  · rw [if_pos l] at q
    exact (pp_ix hK (pp_var hv) hi hs).run pins s σ H Q I ⟨G, Fr, ρ, S, q⟩
  · rw [if_neg l] at q
    exact (pp_ixM hK hv hi hs).run pins s σ H Q I ⟨G, Fr, ρ, S, q⟩
def dLenM (i : Nat) : DE := fun ρ => match slotM ρ i with
  | some (.lst xs) => .ok (.int xs.length) ρ
  | _ => .stuck
def dLenA (i : Nat) : DE := fun ρ => if isVal ρ i = true then dFun fLen (dCons (dVar i) dNil) ρ else dLenM i ρ
theorem pp_lenA {i : Nat} {x : Str} {p p1 : Pos} (hK : F.K = X.K) (hm : X.mg "len" = none) (hg : Gl X "len") (hv : PE X (.Name x p1) (tVar i))
    (h1 : starEach [.Name x p1] X.env = (false, eval (.Name x p1) X.env) :: starEach [] X.env := by rfl) (h2 : (backTo pos (starEach [] X.env)).any (·.1) = false := by rfl) : PE X (.Call (.Name "len" p) [.Name x p1] [] pos) (tE F io W (dLenA i)) := by
  refine ⟨fun pins s σ H Q I ⟨G, Fr, ρ, S, q⟩ => ?_⟩
  unfold dLenA at q
  by_cases l : isVal ρ i = true
  · rw [if_pos l] at q
    exact (pp_fun call_lenA (f_len hK) hm (by decide +kernel) hg (pq_cons (pp_var hv) pq_nil h1) (by decide) (by decide) h1 h2).run pins s σ H Q I ⟨G, Fr, ρ, S, q⟩
  · rw [if_neg l] at q
    refine (pe_callB call_lenA hg hm (by decide +kernel) (pa_cons hv pa_nil h1) (by decide) (by decide) h1 h2).run pins s σ H Q I ?_
    unfold dLenM at q
    cases em : slotM ρ i with
    | none => rw [em] at q; exact q.elim
    | some c =>
      rw [em] at q
      cases c <;> first | exact q.elim | skip
      case lst xs =>
        obtain ⟨a, h1, h2, h3, h4, _⟩ := slotM_at S em
        obtain ⟨vs, g1, g2⟩ := own_lst h4
        exact ⟨.ref a, h1, .inl ⟨a, vs, rfl, .inl (.of g1), by rw [← g2.length]; exact Post.done q S (.int _)⟩⟩
end
end Pl

set_option maxHeartbeats 4000000
/-! Q0 (printed by q0.py): meanings are run by simp: a rule a construct, without open continuations. -/
namespace Pl
open PySem PySem.Spec PyProof.Rows L2
section
variable {α : Type} {f g : PV → PV → Option PV} {u : PV → Option PV} {φ : List PV → FR} {ψ : PV → List PV → FRI} {ω : List PV → Option PV} {fs : List PV → Option PV} {d da db dc : DE} {ds es : DD (List PV)} {t t2 : DD Bool} {s s2 : DS} {x y z p : PV} {xs ps ks vs : List PV} {ρ : Rho} {i j c n k : Nat} {as : List PV} {b : Bool} {tg : Tg} {sl : Option Int}
def fin : Out → FR
  | .nx _ => .ok .non
  | .rt p _ => .ok p
  | .exc c as _ => .exc c as
  | .stuck => .stuck
@[simp] theorem fin_nx : fin (.nx ρ) = .ok .non := rfl
@[simp] theorem fin_rt : fin (.rt p ρ) = .ok p := rfl
@[simp] theorem fin_exc : fin (.exc c as ρ) = .exc c as := rfl
def st0 (k : Nat) (ps : List PV) : Rho := ps.map (fun p => some (SV.val p)) ++ List.replicate (k - ps.length) none
theorem runB_fin {s : DS} : runB n s ps = fin (s (st0 n ps)) := by
  unfold runB
  rw [show (ps.map (fun p => some (SV.val p)) ++ List.replicate (n - ps.length) none) = st0 n ps from rfl]
  cases s (st0 n ps) <;> rfl
def finI : Out → FRI
  | .rt p (some (.inp c') :: _) => .ok p c'
  | .nx (some (.inp c') :: _) => .ok .non c'
  | _ => .stuck
@[simp] theorem finI_rt {c' : PV} : finI (.rt p (some (.inp c') :: ρ)) = .ok p c' := rfl
@[simp] theorem finI_nx {c' : PV} : finI (.nx (some (.inp c') :: ρ)) = .ok .non c' := rfl
def stI (k : Nat) (c : PV) (ps : List PV) : Rho := some (.inp c) :: ps.map (fun p => some (SV.val p)) ++ List.replicate (k - (ps.length + 1)) none
theorem runI_fin {s : DS} {c : PV} : runI n s c ps = finI (s (stI n c ps)) := by
  unfold runI
  rw [show (some (SV.inp c) :: ps.map (fun p => some (SV.val p)) ++ List.replicate (n - (ps.length + 1)) none) = stI n c ps from rfl]
  cases s (stI n c ps) with
  | nx ρ => cases ρ with
    | nil => rfl
    | cons v r => cases v with
      | none => rfl
      | some v => cases v <;> rfl
  | rt p ρ => cases ρ with
    | nil => rfl
    | cons v r => cases v with
      | none => rfl
      | some v => cases v <;> rfl
  | exc => rfl
  | stuck => rfl
def finO : Res (List PV) → Option PV
  | .ok xs _ => if xs.length ≤ 1000 then some (.lst xs) else none
  | _ => none
@[simp] theorem finO_ok : finO (.ok xs ρ) = if xs.length ≤ 1000 then some (.lst xs) else none := rfl
theorem runO_fin : runO n ds ps = finO (ds (st0 n ps)) := by
  unfold runO
  rw [show (ps.map (fun p => some (SV.val p)) ++ List.replicate (n - ps.length) none) = st0 n ps from rfl]
  cases ds (st0 n ps) <;> rfl
@[simp] theorem ofO_some {a : α} : ofO (some a) ρ = .ok a ρ := rfl
@[simp] theorem ofO_none : (ofO none ρ : Res α) = .stuck := rfl

@[simp] theorem e_dC : dC p ρ = .ok p ρ := rfl
def get1 : Option (Option SV) → Rho → Res PV
  | some (some (.val p)), ρ => .ok p ρ
  | _, _ => .stuck
@[simp] theorem get1_v : get1 (some (some (.val p))) ρ = .ok p ρ := rfl
@[simp] theorem e_dVar : dVar i ρ = get1 ρ[i]? ρ := by
  unfold dVar
  cases ρ[i]? with
  | none => rfl
  | some v => cases v with
    | none => rfl
    | some v => cases v <;> rfl
def get2 (i : Nat) : Option (Option SV) → Rho → Res PV
  | some (some (.val p)), ρ => .ok p ρ
  | some (some (.own c)), ρ => .ok c (ρ.set i (some (.val c)))
  | _, _ => .stuck
@[simp] theorem get2_v : get2 i (some (some (.val p))) ρ = .ok p ρ := rfl
@[simp] theorem get2_o : get2 i (some (some (.own p))) ρ = .ok p (ρ.set i (some (.val p))) := rfl
@[simp] theorem e_dRd : dRd i ρ = get2 i ρ[i]? ρ := by
  unfold dRd
  cases ρ[i]? with
  | none => rfl
  | some v => cases v with
    | none => rfl
    | some v => cases v <;> rfl
def slm : Option (Option SV) → Option PV
  | some (some (.own c)) => some c
  | some (some (.inp c)) => some c
  | _ => none
@[simp] theorem slm_o : slm (some (some (.own p))) = some p := rfl
@[simp] theorem slm_i : slm (some (some (.inp p))) = some p := rfl
@[simp] theorem slm_v : slm (some (some (.val p))) = none := rfl
@[simp] theorem slm_n : slm (some none) = none := rfl
@[simp] theorem e_slotM : slotM ρ i = slm ρ[i]? := by
  unfold slotM
  cases ρ[i]? with
  | none => rfl
  | some v => cases v with
    | none => rfl
    | some v => cases v <;> rfl
def ptm (ρ : Rho) (i : Nat) (c : PV) : Option (Option SV) → Rho
  | some (some (.own _)) => ρ.set i (some (.own c))
  | some (some (.inp _)) => ρ.set i (some (.inp c))
  | _ => ρ
@[simp] theorem ptm_o : ptm ρ i p (some (some (.own x))) = ρ.set i (some (.own p)) := rfl
@[simp] theorem ptm_i : ptm ρ i p (some (some (.inp x))) = ρ.set i (some (.inp p)) := rfl
@[simp] theorem e_putM : putM ρ i p = ptm ρ i p ρ[i]? := by
  unfold putM
  cases ρ[i]? with
  | none => rfl
  | some v => cases v with
    | none => rfl
    | some v => cases v <;> rfl
def isl : Option PV → Bool
  | some (.lst _) => true
  | _ => false
@[simp] theorem isl_l : isl (some (.lst xs)) = true := rfl
@[simp] theorem isl_n : isl none = false := rfl
@[simp] theorem e_isLstM : isLstM ρ i = isl (slotM ρ i) := by
  unfold isLstM
  cases slotM ρ i with
  | none => rfl
  | some v => cases v <;> rfl
def isd : Option PV → Bool
  | some (.dks _ _) => true
  | _ => false
@[simp] theorem isd_l : isd (some (.dks xs ps)) = true := rfl
@[simp] theorem isd_n : isd none = false := rfl
@[simp] theorem e_isDkM : isDkM ρ i = isd (slotM ρ i) := by
  unfold isDkM
  cases slotM ρ i with
  | none => rfl
  | some v => cases v <;> rfl
def isv : Option (Option SV) → Bool
  | some (some (.val _)) => true
  | _ => false
@[simp] theorem isv_v : isv (some (some (.val p))) = true := rfl
@[simp] theorem isv_o : isv (some (some (.own p))) = false := rfl
@[simp] theorem isv_i : isv (some (some (.inp p))) = false := rfl
@[simp] theorem e_isVal : isVal ρ i = isv ρ[i]? := by
  unfold isVal
  cases ρ[i]? with
  | none => rfl
  | some v => cases v with
    | none => rfl
    | some v => cases v <;> rfl
@[simp] theorem e_dNil : dNil ρ = .ok [] ρ := rfl
def cons3 (x : PV) : Res (List PV) → Res (List PV)
  | .ok xs ρ => .ok (x :: xs) ρ
  | .exc c as ρ => .exc c as ρ
  | .stuck => .stuck
def cons2 (r : DD (List PV)) : Res PV → Res (List PV)
  | .ok x ρ => cons3 x (r ρ)
  | .exc c as ρ => .exc c as ρ
  | .stuck => .stuck
@[simp] theorem e_dCons : dCons d ds ρ = cons2 ds (d ρ) := by
  unfold dCons cons2
  cases d ρ with
  | ok x ρ1 => show (ds ρ1).bind _ = cons3 x (ds ρ1); cases ds ρ1 <;> rfl
  | _ => rfl
@[simp] theorem cons2_ok : cons2 ds (.ok x ρ) = cons3 x (ds ρ) := rfl
@[simp] theorem cons2_exc : cons2 ds (.exc c as ρ) = .exc c as ρ := rfl
@[simp] theorem cons3_ok : cons3 x (.ok xs ρ) = .ok (x :: xs) ρ := rfl
@[simp] theorem cons3_exc : cons3 x (.exc c as ρ) = .exc c as ρ := rfl
def tup2  : Res (List PV) → Res PV
  | .ok xs ρ => if xs.length ≤ 1000 then .ok (.tup xs) ρ else .stuck
  | .exc c as ρ => .exc c as ρ
  | .stuck => .stuck
@[simp] theorem e_tup2 : dTup ds ρ = tup2  (ds ρ) := by
  unfold dTup tup2
  cases ds ρ <;> first | rfl | (rename_i v _; cases v <;> rfl) | (dsimp only [Res.bind, Res.toOut]; split <;> rfl)
@[simp] theorem tup2_exc : tup2  (.exc c as ρ) = .exc c as ρ := rfl
@[simp] theorem tup2_ok {xs : List PV} : tup2  (.ok xs ρ) = if xs.length ≤ 1000 then .ok (.tup xs) ρ else .stuck := rfl
def lst2  : Res (List PV) → Res PV
  | .ok xs ρ => if xs.length ≤ 1000 then .ok (.lst xs) ρ else .stuck
  | .exc c as ρ => .exc c as ρ
  | .stuck => .stuck
@[simp] theorem e_lst2 : dLst ds ρ = lst2  (ds ρ) := by
  unfold dLst lst2
  cases ds ρ <;> first | rfl | (rename_i v _; cases v <;> rfl) | (dsimp only [Res.bind, Res.toOut]; split <;> rfl)
@[simp] theorem lst2_exc : lst2  (.exc c as ρ) = .exc c as ρ := rfl
@[simp] theorem lst2_ok {xs : List PV} : lst2  (.ok xs ρ) = if xs.length ≤ 1000 then .ok (.lst xs) ρ else .stuck := rfl
def bin3 (f : PV → PV → Option PV) (x : PV) : Res PV → Res PV
  | .ok y ρ => ofO (f x y) ρ
  | .exc c as ρ => .exc c as ρ
  | .stuck => .stuck
@[simp] theorem bin3_ok : bin3 f x (.ok y ρ) = ofO (f x y) ρ := rfl
@[simp] theorem bin3_exc : bin3 f x (.exc c as ρ) = .exc c as ρ := rfl
def bin2 (f : PV → PV → Option PV) (db : DE) : Res PV → Res PV
  | .ok x ρ => bin3 f x (db ρ)
  | .exc c as ρ => .exc c as ρ
  | .stuck => .stuck
@[simp] theorem bin2_ok : bin2 f db (.ok x ρ) = bin3 f x (db ρ) := rfl
@[simp] theorem bin2_exc : bin2 f db (.exc c as ρ) = .exc c as ρ := rfl
@[simp] theorem e_dBin : dBin f da db ρ = bin2 f db (da ρ) := by
  unfold dBin bin2
  cases da ρ with
  | ok x ρ1 => show (db ρ1).bind _ = bin3 f x (db ρ1); cases db ρ1 <;> rfl
  | _ => rfl
def bins2 (f : PV → PV → Option PV) (db : DE) : Res PV → Res PV
  | .ok x ρ => if isStr x = true then bin3 f x (db ρ) else .stuck
  | .exc c as ρ => .exc c as ρ
  | .stuck => .stuck
@[simp] theorem bins2_ok : bins2 f db (.ok x ρ) = if isStr x = true then bin3 f x (db ρ) else .stuck := rfl
@[simp] theorem e_dBinS : dBinS f da db ρ = bins2 f db (da ρ) := by
  unfold dBinS bins2
  cases da ρ with
  | ok x ρ1 =>
    show (if isStr x = true then (db ρ1).bind _ else Res.stuck) = if isStr x = true then bin3 f x (db ρ1) else Res.stuck
    have e : (db ρ1).bind (fun y ρ => ofO (f x y) ρ) = bin3 f x (db ρ1) := by cases db ρ1 <;> rfl
    rw [e]
  | _ => rfl
def un2 (u : PV → Option PV) : Res (PV) → Res PV
  | .ok x ρ => ofO (u x) ρ
  | .exc c as ρ => .exc c as ρ
  | .stuck => .stuck
@[simp] theorem e_un2 : dUn u d ρ = un2 u (d ρ) := by
  unfold dUn un2
  cases d ρ <;> first | rfl | (rename_i v _; cases v <;> rfl) | (dsimp only [Res.bind, Res.toOut]; split <;> rfl)
@[simp] theorem un2_exc : un2 u (.exc c as ρ) = .exc c as ρ := rfl
@[simp] theorem un2_ok {x : PV} : un2 u (.ok x ρ) = ofO (u x) ρ := rfl
@[simp] theorem isStr_s : ∀ q : Str, isStr (.str q) = true := fun _ => rfl
def tru2  : Res (PV) → Res Bool
  | .ok x ρ => ofO (truth x) ρ
  | .exc c as ρ => .exc c as ρ
  | .stuck => .stuck
@[simp] theorem e_tru2 : dTru d ρ = tru2  (d ρ) := by
  unfold dTru tru2
  cases d ρ <;> first | rfl | (rename_i v _; cases v <;> rfl) | (dsimp only [Res.bind, Res.toOut]; split <;> rfl)
@[simp] theorem tru2_exc : tru2  (.exc c as ρ) = .exc c as ρ := rfl
@[simp] theorem tru2_ok {x : PV} : tru2  (.ok x ρ) = ofO (truth x) ρ := rfl
def asb2  : Res (PV) → Res Bool
  | .ok x ρ => ofO (asB x) ρ
  | .exc c as ρ => .exc c as ρ
  | .stuck => .stuck
@[simp] theorem e_asb2 : dAsB d ρ = asb2  (d ρ) := by
  unfold dAsB asb2
  cases d ρ <;> first | rfl | (rename_i v _; cases v <;> rfl) | (dsimp only [Res.bind, Res.toOut]; split <;> rfl)
@[simp] theorem asb2_exc : asb2  (.exc c as ρ) = .exc c as ρ := rfl
@[simp] theorem asb2_ok {x : PV} : asb2  (.ok x ρ) = ofO (asB x) ρ := rfl
def not2  : Res (Bool) → Res Bool
  | .ok b ρ => .ok (!b) ρ
  | .exc c as ρ => .exc c as ρ
  | .stuck => .stuck
@[simp] theorem e_not2 : dNot t ρ = not2  (t ρ) := by
  unfold dNot not2
  cases t ρ <;> first | rfl | (rename_i v _; cases v <;> rfl) | (dsimp only [Res.bind, Res.toOut]; split <;> rfl)
@[simp] theorem not2_exc : not2  (.exc c as ρ) = .exc c as ρ := rfl
@[simp] theorem not2_ok {b : Bool} : not2  (.ok b ρ) = .ok (!b) ρ := rfl
def and2 (u : DD Bool) : Res (Bool) → Res Bool
  | .ok b ρ => if b = true then u ρ else .ok false ρ
  | .exc c as ρ => .exc c as ρ
  | .stuck => .stuck
@[simp] theorem e_and2 : dAnd t t2 ρ = and2 t2 (t ρ) := by
  unfold dAnd and2
  cases t ρ <;> first | rfl | (rename_i v _; cases v <;> rfl) | (dsimp only [Res.bind, Res.toOut]; split <;> rfl)
@[simp] theorem and2_exc : and2 t2 (.exc c as ρ) = .exc c as ρ := rfl
@[simp] theorem and2_ok {b : Bool} : and2 t2 (.ok b ρ) = if b = true then t2 ρ else .ok false ρ := rfl
def or2 (u : DD Bool) : Res (Bool) → Res Bool
  | .ok b ρ => if b = true then .ok true ρ else u ρ
  | .exc c as ρ => .exc c as ρ
  | .stuck => .stuck
@[simp] theorem e_or2 : dOr t t2 ρ = or2 t2 (t ρ) := by
  unfold dOr or2
  cases t ρ <;> first | rfl | (rename_i v _; cases v <;> rfl) | (dsimp only [Res.bind, Res.toOut]; split <;> rfl)
@[simp] theorem or2_exc : or2 t2 (.exc c as ρ) = .exc c as ρ := rfl
@[simp] theorem or2_ok {b : Bool} : or2 t2 (.ok b ρ) = if b = true then .ok true ρ else t2 ρ := rfl
def bv (r : Bool → Res PV) : PV → Res PV
  | .bl b => r b
  | _ => .stuck
@[simp] theorem bv_b : ∀ r, bv r (.bl b) = r b := fun _ => rfl
def andv (u : DE) (b : Bool) (ρ : Rho) : Res PV := if b = true then u ρ else .ok (.bl false) ρ
def orv (u : DE) (b : Bool) (ρ : Rho) : Res PV := if b = true then .ok (.bl true) ρ else u ρ
@[simp] theorem andv_t : andv d true ρ = d ρ := rfl
@[simp] theorem andv_f : andv d false ρ = .ok (.bl false) ρ := rfl
@[simp] theorem orv_t : orv d true ρ = .ok (.bl true) ρ := rfl
@[simp] theorem orv_f : orv d false ρ = d ρ := rfl
def andv2 (u : DE) : Res PV → Res PV
  | .ok (.bl b) ρ => andv u b ρ
  | .exc c as ρ => .exc c as ρ
  | _ => .stuck
@[simp] theorem andv2_ok : andv2 d (.ok (.bl b) ρ) = andv d b ρ := rfl
@[simp] theorem e_andv2 : dAndV da d ρ = andv2 d (da ρ) := by
  unfold dAndV andv2
  cases da ρ with
  | ok x ρ1 => cases x with
    | bl b => cases b <;> rfl
    | _ => rfl
  | _ => rfl
def orv2 (u : DE) : Res PV → Res PV
  | .ok (.bl b) ρ => orv u b ρ
  | .exc c as ρ => .exc c as ρ
  | _ => .stuck
@[simp] theorem orv2_ok : orv2 d (.ok (.bl b) ρ) = orv d b ρ := rfl
@[simp] theorem e_orv2 : dOrV da d ρ = orv2 d (da ρ) := by
  unfold dOrV orv2
  cases da ρ with
  | ok x ρ1 => cases x with
    | bl b => cases b <;> rfl
    | _ => rfl
  | _ => rfl
def notv2 : Res PV → Res PV
  | .ok (.bl b) ρ => .ok (.bl (!b)) ρ
  | .exc c as ρ => .exc c as ρ
  | _ => .stuck
@[simp] theorem notv2_ok : notv2 (.ok (.bl b) ρ) = .ok (.bl (!b)) ρ := rfl
@[simp] theorem e_notv2 : dNotV d ρ = notv2 (d ρ) := by
  unfold dNotV notv2
  cases d ρ with
  | ok x ρ1 => cases x <;> rfl
  | _ => rfl
def nott2  : Res (PV) → Res PV
  | .ok x ρ => ofO ((truth x).map fun b => .bl (!b)) ρ
  | .exc c as ρ => .exc c as ρ
  | .stuck => .stuck
@[simp] theorem e_nott2 : dNotT d ρ = nott2  (d ρ) := by
  unfold dNotT nott2
  cases d ρ <;> first | rfl | (rename_i v _; cases v <;> rfl) | (dsimp only [Res.bind, Res.toOut]; split <;> rfl)
@[simp] theorem nott2_exc : nott2  (.exc c as ρ) = .exc c as ρ := rfl
@[simp] theorem nott2_ok {x : PV} : nott2  (.ok x ρ) = ofO ((truth x).map fun b => .bl (!b)) ρ := rfl
def if2 (a b : DE) : Res (Bool) → Res PV
  | .ok k ρ => if k = true then a ρ else b ρ
  | .exc c as ρ => .exc c as ρ
  | .stuck => .stuck
@[simp] theorem e_if2 : dIf t da db ρ = if2 da db (t ρ) := by
  unfold dIf if2
  cases t ρ <;> first | rfl | (rename_i v _; cases v <;> rfl) | (dsimp only [Res.bind, Res.toOut]; split <;> rfl)
@[simp] theorem if2_exc : if2 da db (.exc c as ρ) = .exc c as ρ := rfl
@[simp] theorem if2_ok {k : Bool} : if2 da db (.ok k ρ) = if k = true then da ρ else db ρ := rfl
def ch4 (g : PV → PV → Option PV) (y : PV) : Res PV → Res PV
  | .ok z ρ => ofO (g y z) ρ
  | .exc c as ρ => .exc c as ρ
  | .stuck => .stuck
@[simp] theorem ch4_ok : ch4 g y (.ok z ρ) = ofO (g y z) ρ := rfl
def ch3b (g : PV → PV → Option PV) (y : PV) (dc : DE) (ρ : Rho) : Option PV → Res PV
  | some (.bl true) => ch4 g y (dc ρ)
  | some (.bl false) => .ok (.bl false) ρ
  | _ => .stuck
@[simp] theorem ch3b_if : ch3b g y dc ρ (some (.bl b)) = if b = true then ch4 g y (dc ρ) else .ok (.bl false) ρ := by cases b <;> rfl
def ch3 (f g : PV → PV → Option PV) (x : PV) (dc : DE) : Res PV → Res PV
  | .ok y ρ => ch3b g y dc ρ (f x y)
  | .exc c as ρ => .exc c as ρ
  | .stuck => .stuck
@[simp] theorem ch3_ok : ch3 f g x dc (.ok y ρ) = ch3b g y dc ρ (f x y) := rfl
def ch2 (f g : PV → PV → Option PV) (db dc : DE) : Res PV → Res PV
  | .ok x ρ => ch3 f g x dc (db ρ)
  | .exc c as ρ => .exc c as ρ
  | .stuck => .stuck
@[simp] theorem ch2_ok : ch2 f g db dc (.ok x ρ) = ch3 f g x dc (db ρ) := rfl
@[simp] theorem e_dChain : dChain f g da db dc ρ = ch2 f g db dc (da ρ) := by
  unfold dChain ch2
  cases da ρ with
  | ok x ρ1 =>
    show (db ρ1).bind _ = ch3 f g x dc (db ρ1)
    unfold ch3
    cases db ρ1 with
    | ok y ρ2 =>
      show (match f x y with
        | some (.bl true) => (dc ρ2).bind fun z ρ => ofO (g y z) ρ
        | some (.bl false) => .ok (.bl false) ρ2
        | _ => .stuck) = ch3b g y dc ρ2 (f x y)
      unfold ch3b ch4
      cases f x y with
      | none => rfl
      | some v => cases v with
        | bl b => cases b with
          | true => cases dc ρ2 <;> rfl
          | false => rfl
        | _ => rfl
    | _ => rfl
  | _ => rfl
def cal3 (ρ : Rho) : FR → Res PV
  | .ok r => .ok r ρ
  | .exc c as => .exc c as ρ
  | .stuck => .stuck
@[simp] theorem cal3_ok : cal3 ρ (.ok x) = .ok x ρ := rfl
@[simp] theorem cal3_exc : cal3 ρ (.exc c as) = .exc c as ρ := rfl
def cal2 (φ : List PV → FR) : Res (List PV) → Res PV
  | .ok xs ρ => cal3 ρ (φ xs)
  | .exc c as ρ => .exc c as ρ
  | .stuck => .stuck
@[simp] theorem e_cal2 : dCall φ ds ρ = cal2 φ (ds ρ) := by
  unfold dCall cal2
  cases ds ρ <;> first | rfl | (rename_i v _; cases v <;> rfl) | (dsimp only [Res.bind, Res.toOut]; split <;> rfl)
@[simp] theorem cal2_exc : cal2 φ (.exc c as ρ) = .exc c as ρ := rfl
@[simp] theorem cal2_ok {xs : List PV} : cal2 φ (.ok xs ρ) = cal3 ρ (φ xs) := rfl
def fun2 (fs : List PV → Option PV) : Res (List PV) → Res PV
  | .ok xs ρ => ofO (fs xs) ρ
  | .exc c as ρ => .exc c as ρ
  | .stuck => .stuck
@[simp] theorem e_fun2 : dFun fs ds ρ = fun2 fs (ds ρ) := by
  unfold dFun fun2
  cases ds ρ <;> first | rfl | (rename_i v _; cases v <;> rfl) | (dsimp only [Res.bind, Res.toOut]; split <;> rfl)
@[simp] theorem fun2_exc : fun2 fs (.exc c as ρ) = .exc c as ρ := rfl
@[simp] theorem fun2_ok {xs : List PV} : fun2 fs (.ok xs ρ) = ofO (fs xs) ρ := rfl
def cali4 (ρ : Rho) (i : Nat) : FRI → Res PV
  | .ok r c' => .ok r (putM ρ i c')
  | .stuck => .stuck
@[simp] theorem cali4_ok : cali4 ρ i (.ok x y) = .ok x (putM ρ i y) := rfl
def cali3 (ψ : PV → List PV → FRI) (ρ : Rho) (i : Nat) (xs : List PV) : Option PV → Res PV
  | some c => cali4 ρ i (ψ c xs)
  | none => .stuck
@[simp] theorem cali3_s : cali3 ψ ρ i xs (some x) = cali4 ρ i (ψ x xs) := rfl
def cali2 (ψ : PV → List PV → FRI) (i : Nat) : Res (List PV) → Res PV
  | .ok xs ρ => cali3 ψ ρ i xs (slotM ρ i)
  | .exc c as ρ => .exc c as ρ
  | .stuck => .stuck
@[simp] theorem cali2_ok : cali2 ψ i (.ok xs ρ) = cali3 ψ ρ i xs (slotM ρ i) := rfl
@[simp] theorem e_dCallI : dCallI i ψ ds ρ = if (slotM ρ i).isSome = true then cali2 ψ i (ds ρ) else .stuck := by
  unfold dCallI cali2
  by_cases h : (slotM ρ i).isSome = true
  · rw [if_pos h, if_pos h]
    cases ds ρ with
    | ok xs ρ1 =>
      show (match slotM ρ1 i with
        | some c => _
        | none => _) = cali3 ψ ρ1 i xs (slotM ρ1 i)
      cases slotM ρ1 i with
      | none => rfl
      | some c =>
        show (match ψ c xs with
          | .ok r c' => Res.ok r (putM ρ1 i c')
          | .stuck => Res.stuck) = cali4 ρ1 i (ψ c xs)
        cases ψ c xs <;> rfl
    | _ => rfl
  · rw [if_neg h, if_neg h]
variable {T : String}
def isi2 (T : String) : Res (PV) → Res PV
  | .ok x ρ => ofO (pIsi T x) ρ
  | .exc c as ρ => .exc c as ρ
  | .stuck => .stuck
@[simp] theorem e_isi2 : dIsi T d ρ = isi2 T (d ρ) := by
  unfold dIsi isi2
  cases d ρ <;> first | rfl | (rename_i v _; cases v <;> rfl) | (dsimp only [Res.bind, Res.toOut]; split <;> rfl)
@[simp] theorem isi2_exc : isi2 T (.exc c as ρ) = .exc c as ρ := rfl
@[simp] theorem isi2_ok {x : PV} : isi2 T (.ok x ρ) = ofO (pIsi T x) ρ := rfl
def part2 : Res PV → Res (Option Int)
  | .ok (.int i) ρ => .ok (some i) ρ
  | .exc c as ρ => .exc c as ρ
  | _ => .stuck
@[simp] theorem part2_ok {i : Int} : part2 (.ok (.int i) ρ) = .ok (some i) ρ := rfl
@[simp] theorem e_dPartN : dPart none ρ = .ok none ρ := rfl
@[simp] theorem e_dPartS : dPart (some d) ρ = part2 (d ρ) := by
  show (d ρ).bind _ = part2 (d ρ)
  unfold part2
  cases d ρ with
  | ok x ρ1 => cases x <;> rfl
  | _ => rfl
def sl4 (x : PV) (lo : Option Int) : Res (Option Int) → Res PV
  | .ok hi ρ => ofO (pSl x lo hi) ρ
  | .exc c as ρ => .exc c as ρ
  | .stuck => .stuck
def sl3 (x : PV) (dh : Option DE) : Res (Option Int) → Res PV
  | .ok lo ρ => sl4 x lo (dPart dh ρ)
  | .exc c as ρ => .exc c as ρ
  | .stuck => .stuck
def sl2 (dl dh : Option DE) : Res PV → Res PV
  | .ok x ρ => sl3 x dh (dPart dl ρ)
  | .exc c as ρ => .exc c as ρ
  | .stuck => .stuck
variable {dl dh : Option DE} {lo hi : Option Int}
@[simp] theorem sl4_ok : sl4 x lo (.ok hi ρ) = ofO (pSl x lo hi) ρ := rfl
@[simp] theorem sl3_ok : sl3 x dh (.ok lo ρ) = sl4 x lo (dPart dh ρ) := rfl
@[simp] theorem sl2_ok : sl2 dl dh (.ok x ρ) = sl3 x dh (dPart dl ρ) := rfl
@[simp] theorem e_dSl : dSl da dl dh ρ = sl2 dl dh (da ρ) := by
  unfold dSl sl2
  cases da ρ with
  | ok x ρ1 =>
    show (dPart dl ρ1).bind _ = sl3 x dh (dPart dl ρ1)
    unfold sl3
    cases dPart dl ρ1 with
    | ok lo ρ2 =>
      show (dPart dh ρ2).bind _ = sl4 x lo (dPart dh ρ2)
      cases dPart dh ρ2 <;> rfl
    | _ => rfl
  | _ => rfl
def thn2 (s2 : DS) : Out → Out
  | .nx ρ => s2 ρ
  | .rt p ρ => .rt p ρ
  | .exc c as ρ => .exc c as ρ
  | .stuck => .stuck
@[simp] theorem thn2_nx : thn2 s (.nx ρ) = s ρ := rfl
@[simp] theorem thn2_rt : thn2 s (.rt p ρ) = .rt p ρ := rfl
@[simp] theorem thn2_exc : thn2 s (.exc c as ρ) = .exc c as ρ := rfl
@[simp] theorem e_sSeq : sSeq s s2 ρ = thn2 s2 (s ρ) := by
  unfold sSeq
  cases s ρ <;> rfl
@[simp] theorem e_sNil : sNil ρ = .nx ρ := rfl
@[simp] theorem e_sRetN : sRetN ρ = .rt .non ρ := rfl
def exp2  : Res (PV) → Out
  | .ok x ρ => .nx ρ
  | .exc c as ρ => .exc c as ρ
  | .stuck => .stuck
@[simp] theorem e_exp2 : sExpr d ρ = exp2  (d ρ) := by
  unfold sExpr exp2
  cases d ρ <;> first | rfl | (rename_i v _; cases v <;> rfl) | (dsimp only [Res.bind, Res.toOut]; split <;> rfl)
@[simp] theorem exp2_exc : exp2  (.exc c as ρ) = .exc c as ρ := rfl
@[simp] theorem exp2_ok {x : PV} : exp2  (.ok x ρ) = .nx ρ := rfl
def ret2  : Res (PV) → Out
  | .ok x ρ => .rt x ρ
  | .exc c as ρ => .exc c as ρ
  | .stuck => .stuck
@[simp] theorem e_ret2 : sRet d ρ = ret2  (d ρ) := by
  unfold sRet ret2
  cases d ρ <;> first | rfl | (rename_i v _; cases v <;> rfl) | (dsimp only [Res.bind, Res.toOut]; split <;> rfl)
@[simp] theorem ret2_exc : ret2  (.exc c as ρ) = .exc c as ρ := rfl
@[simp] theorem ret2_ok {x : PV} : ret2  (.ok x ρ) = .rt x ρ := rfl
def ifs2 (a b : DS) : Res (Bool) → Out
  | .ok k ρ => if k = true then a ρ else b ρ
  | .exc c as ρ => .exc c as ρ
  | .stuck => .stuck
@[simp] theorem e_ifs2 : sIf t s s2 ρ = ifs2 s s2 (t ρ) := by
  unfold sIf ifs2
  cases t ρ <;> first | rfl | (rename_i v _; cases v <;> rfl) | (dsimp only [Res.bind, Res.toOut]; split <;> rfl)
@[simp] theorem ifs2_exc : ifs2 s s2 (.exc c as ρ) = .exc c as ρ := rfl
@[simp] theorem ifs2_ok {k : Bool} : ifs2 s s2 (.ok k ρ) = if k = true then s ρ else s2 ρ := rfl
def set2 (i : Nat) : Res (PV) → Out
  | .ok x ρ => .nx (ρ.set i (some (.val x)))
  | .exc c as ρ => .exc c as ρ
  | .stuck => .stuck
@[simp] theorem e_set2 : sSet i d ρ = set2 i (d ρ) := by
  unfold sSet set2
  cases d ρ <;> first | rfl | (rename_i v _; cases v <;> rfl) | (dsimp only [Res.bind, Res.toOut]; split <;> rfl)
@[simp] theorem set2_exc : set2 i (.exc c as ρ) = .exc c as ρ := rfl
@[simp] theorem set2_ok {x : PV} : set2 i (.ok x ρ) = .nx (ρ.set i (some (.val x))) := rfl
def tgO : Option Rho → Out
  | some ρ => .nx ρ
  | none => .stuck
@[simp] theorem tgO_s : tgO (some ρ) = .nx ρ := rfl
def asg2 (g : Tg) : Res (PV) → Out
  | .ok x ρ => tgO (g.set x ρ)
  | .exc c as ρ => .exc c as ρ
  | .stuck => .stuck
@[simp] theorem e_asg2 : sAsg tg d ρ = asg2 tg (d ρ) := by
  unfold sAsg asg2
  cases d ρ <;> first | rfl | (rename_i v _; cases v <;> rfl) | (dsimp only [Res.bind, Res.toOut]; split <;> rfl)
@[simp] theorem asg2_exc : asg2 tg (.exc c as ρ) = .exc c as ρ := rfl
@[simp] theorem asg2_ok {x : PV} : asg2 tg (.ok x ρ) = tgO (tg.set x ρ) := rfl
@[simp] theorem e_tgOne : Tg.set (.one i) p ρ = some (ρ.set i (some (.val p))) := rfl
variable {is : List Nat}
@[simp] theorem e_tgTup : Tg.set (.tup is) (.tup ps) ρ = setAll is ps ρ := rfl
@[simp] theorem e_setNil : setAll [] [] ρ = some ρ := rfl
@[simp] theorem e_setCons : setAll (i :: is) (p :: ps) ρ = setAll is ps (ρ.set i (some (.val p))) := rfl
def par3 (i j : Nat) (ρ : Rho) : List PV → Out
  | [x, y] => .nx ((ρ.set i (some (.val x))).set j (some (.val y)))
  | _ => .stuck
@[simp] theorem par3_2 : par3 i j ρ [x, y] = .nx ((ρ.set i (some (.val x))).set j (some (.val y))) := rfl
def par2 (i j : Nat) : Res (List PV) → Out
  | .ok xs ρ => par3 i j ρ xs
  | .exc c as ρ => .exc c as ρ
  | .stuck => .stuck
@[simp] theorem e_par2 : sPar i j ds ρ = par2 i j (ds ρ) := by
  unfold sPar par2
  cases ds ρ <;> first | rfl | (rename_i v _; cases v <;> rfl) | (dsimp only [Res.bind, Res.toOut]; split <;> rfl)
@[simp] theorem par2_exc : par2 i j (.exc c as ρ) = .exc c as ρ := rfl
@[simp] theorem par2_ok {xs : List PV} : par2 i j (.ok xs ρ) = par3 i j ρ xs := rfl
def aug4 (i : Nat) (ρ : Rho) : Option PV → Out
  | some z => .nx (ρ.set i (some (.val z)))
  | none => .stuck
@[simp] theorem aug4_s : aug4 i ρ (some x) = .nx (ρ.set i (some (.val x))) := rfl
def aug3 (i : Nat) (f : PV → PV → Option PV) (x : PV) : Res PV → Out
  | .ok y ρ => aug4 i ρ (f x y)
  | .exc c as ρ => .exc c as ρ
  | .stuck => .stuck
@[simp] theorem aug3_ok : aug3 i f x (.ok y ρ) = aug4 i ρ (f x y) := rfl
def aug2 (i : Nat) (f : PV → PV → Option PV) (d : DE) (ρ : Rho) : Option (Option SV) → Out
  | some (some (.val x)) => aug3 i f x (d ρ)
  | _ => .stuck
@[simp] theorem aug2_v : aug2 i f d ρ (some (some (.val x))) = aug3 i f x (d ρ) := rfl
@[simp] theorem e_sAug : sAug i f d ρ = aug2 i f d ρ ρ[i]? := by
  unfold sAug aug2
  cases ρ[i]? with
  | none => rfl
  | some v => cases v with
    | none => rfl
    | some v => cases v with
      | val x =>
        show (d ρ).toOut _ = aug3 i f x (d ρ)
        cases d ρ with
        | ok y ρ1 => show (match f x y with | some z => Out.nx _ | none => Out.stuck) = aug4 i ρ1 (f x y); cases f x y <;> rfl
        | _ => rfl
      | _ => rfl
@[simp] theorem pIpAdd_i (i j : Int) : pIpAdd (.int i) (.int j) = some (.int (i + j)) := rfl
def for2 (g : Tg) (s : DS) : Res (List PV) → Out
  | .ok ps ρ => forL g s ps ρ
  | .exc c as ρ => .exc c as ρ
  | .stuck => .stuck
@[simp] theorem e_for2 : sFor tg ds s ρ = for2 tg s (ds ρ) := by
  unfold sFor for2
  cases ds ρ <;> first | rfl | (rename_i v _; cases v <;> rfl) | (dsimp only [Res.bind, Res.toOut]; split <;> rfl)
@[simp] theorem for2_exc : for2 tg s (.exc c as ρ) = .exc c as ρ := rfl
@[simp] theorem for2_ok {ps : List PV} : for2 tg s (.ok ps ρ) = forL tg s ps ρ := rfl
@[simp] theorem e_sRaise : sRaise c ρ = .exc c [] ρ := rfl
def rsa2 (c : Nat) : Res (PV) → Out
  | .ok x ρ => .exc c [x] ρ
  | .exc c as ρ => .exc c as ρ
  | .stuck => .stuck
@[simp] theorem e_rsa2 : sRaiseA n d ρ = rsa2 n (d ρ) := by
  unfold sRaiseA rsa2
  cases d ρ <;> first | rfl | (rename_i v _; cases v <;> rfl) | (dsimp only [Res.bind, Res.toOut]; split <;> rfl)
@[simp] theorem rsa2_exc : rsa2 n (.exc c as ρ) = .exc c as ρ := rfl
@[simp] theorem rsa2_ok {x : PV} : rsa2 n (.ok x ρ) = .exc n [x] ρ := rfl
def newl2 (i : Nat) : Res (List PV) → Out
  | .ok xs ρ => if xs.length ≤ 1000 then .nx (ρ.set i (some (.own (.lst xs)))) else .stuck
  | .exc c as ρ => .exc c as ρ
  | .stuck => .stuck
@[simp] theorem newl2_ok : newl2 i (.ok xs ρ) = if xs.length ≤ 1000 then .nx (ρ.set i (some (.own (.lst xs)))) else .stuck := rfl
@[simp] theorem e_sNewL : sNewL i ds ρ = newl2 i (ds ρ) := by
  unfold sNewL newl2
  cases ds ρ <;> rfl
def app3 (i : Nat) (y : PV) (ρ : Rho) : Option PV → Out
  | some (.lst xs) => if xs.length < LIM then .nx (putM ρ i (.lst (xs ++ [y]))) else .stuck
  | _ => .stuck
@[simp] theorem app3_l : app3 i y ρ (some (.lst xs)) = if xs.length < LIM then .nx (putM ρ i (.lst (xs ++ [y]))) else .stuck := rfl
def app2 (i : Nat) : Res PV → Out
  | .ok y ρ => app3 i y ρ (slotM ρ i)
  | .exc c as ρ => .exc c as ρ
  | .stuck => .stuck
@[simp] theorem app2_ok : app2 i (.ok y ρ) = app3 i y ρ (slotM ρ i) := rfl
@[simp] theorem e_sApp : sApp' i d ρ = if isLstM ρ i = true then app2 i (d ρ) else .stuck := by
  unfold sApp' sApp app2
  by_cases h : isLstM ρ i = true
  · rw [if_pos h, if_pos h]
    cases d ρ with
    | ok y ρ1 =>
      show (match slotM ρ1 i with
        | some (.lst xs) => _
        | _ => _) = app3 i y ρ1 (slotM ρ1 i)
      cases slotM ρ1 i with
      | none => rfl
      | some v => cases v <;> rfl
    | _ => rfl
  · rw [if_neg h, if_neg h]
def putl4 (i : Nat) (y : PV) (ρ : Rho) (xs : List PV) : Option Nat → Out
  | some m => .nx (putM ρ i (.lst (xs.set m y)))
  | none => .stuck
@[simp] theorem putl4_s : putl4 i y ρ xs (some n) = .nx (putM ρ i (.lst (xs.set n y))) := rfl
def putl3 (i : Nat) (y : PV) (ρ : Rho) (k : PV) : Option PV → Out
  | some (.lst xs) => (match k with
    | .int j => putl4 i y ρ xs (ixN xs.length j)
    | _ => .stuck)
  | _ => .stuck
@[simp] theorem putl3_l {j : Int} : putl3 i y ρ (.int j) (some (.lst xs)) = putl4 i y ρ xs (ixN xs.length j) := rfl
def putl2 (i : Nat) (y : PV) : Res PV → Out
  | .ok k ρ => putl3 i y ρ k (slotM ρ i)
  | .exc c as ρ => .exc c as ρ
  | .stuck => .stuck
@[simp] theorem putl2_ok : putl2 i y (.ok x ρ) = putl3 i y ρ x (slotM ρ i) := rfl
def putl1 (i : Nat) (di : DE) : Res PV → Out
  | .ok y ρ => if isLstM ρ i = true then putl2 i y (di ρ) else .stuck
  | .exc c as ρ => .exc c as ρ
  | .stuck => .stuck
@[simp] theorem putl1_ok : putl1 i db (.ok y ρ) = if isLstM ρ i = true then putl2 i y (db ρ) else .stuck := rfl
@[simp] theorem e_sPut : sPut i d db ρ = putl1 i db (d ρ) := by
  unfold sPut putl1
  cases d ρ with
  | ok y ρ1 =>
    show (if isLstM ρ1 i = true then _ else _) = if isLstM ρ1 i = true then putl2 i y (db ρ1) else _
    by_cases h : isLstM ρ1 i = true
    · rw [if_pos h, if_pos h]
      cases db ρ1 with
      | ok k ρ2 =>
        show (match slotM ρ2 i, k with
          | some (.lst xs), .int j => _
          | _, _ => _) = putl3 i y ρ2 k (slotM ρ2 i)
        cases slotM ρ2 i with
        | none => cases k <;> rfl
        | some v =>
          cases v <;> cases k <;> rfl
      | _ => rfl
    · rw [if_neg h, if_neg h]
  | _ => rfl
def ixm3 (k : PV) (ρ : Rho) : Option PV → Res PV
  | some (.lst xs) => ofO (pIx (.lst xs) k) ρ
  | _ => .stuck
@[simp] theorem ixm3_l : ixm3 x ρ (some (.lst xs)) = ofO (pIx (.lst xs) x) ρ := rfl
def ixm2 (i : Nat) : Res PV → Res PV
  | .ok k ρ => ixm3 k ρ (slotM ρ i)
  | .exc c as ρ => .exc c as ρ
  | .stuck => .stuck
@[simp] theorem ixm2_ok : ixm2 i (.ok x ρ) = ixm3 x ρ (slotM ρ i) := rfl
@[simp] theorem e_dIxM : dIxM i d ρ = if isLstM ρ i = true then ixm2 i (d ρ) else .stuck := by
  unfold dIxM ixm2
  by_cases h : isLstM ρ i = true
  · rw [if_pos h, if_pos h]
    cases d ρ with
    | ok k ρ1 =>
      show (match slotM ρ1 i with
        | some (.lst xs) => _
        | _ => _) = ixm3 k ρ1 (slotM ρ1 i)
      cases slotM ρ1 i with
      | none => rfl
      | some v => cases v <;> rfl
    | _ => rfl
  · rw [if_neg h, if_neg h]
@[simp] theorem e_dIxA : dIxA i d ρ = if isVal ρ i = true then dBin pIx (dVar i) d ρ else dIxM i d ρ := rfl
def lenm : Option PV → Rho → Res PV
  | some (.lst xs), ρ => .ok (.int xs.length) ρ
  | _, _ => .stuck
@[simp] theorem lenm_l : lenm (some (.lst xs)) ρ = .ok (.int xs.length) ρ := rfl
@[simp] theorem e_dLenM : dLenM i ρ = lenm (slotM ρ i) ρ := by
  unfold dLenM lenm
  cases slotM ρ i with
  | none => rfl
  | some v => cases v <;> rfl
@[simp] theorem e_dLenA : dLenA i ρ = if isVal ρ i = true then dFun fLen (dCons (dVar i) dNil) ρ else dLenM i ρ := rfl
def calo3 (i : Nat) (ρ : Rho) : Option PV → Out
  | some c => .nx (ρ.set i (some (.own c)))
  | none => .stuck
@[simp] theorem calo3_s : calo3 i ρ (some x) = .nx (ρ.set i (some (.own x))) := rfl
def calo2 (i : Nat) (ω : List PV → Option PV) : Res (List PV) → Out
  | .ok xs ρ => calo3 i ρ (ω xs)
  | .exc c as ρ => .exc c as ρ
  | .stuck => .stuck
@[simp] theorem calo2_ok : calo2 i ω (.ok xs ρ) = calo3 i ρ (ω xs) := rfl
@[simp] theorem e_sCallO : sCallO i ω ds ρ = calo2 i ω (ds ρ) := by
  unfold sCallO calo2
  cases ds ρ with
  | ok xs ρ1 => show (match ω xs with | some c => _ | none => _) = calo3 i ρ1 (ω xs); cases ω xs <;> rfl
  | _ => rfl
def its3 (ρ : Rho) : PV → Res (List PV)
  | .lst xs => .ok xs ρ
  | .tup xs => .ok xs ρ
  | .str x => .ok (signsP x) ρ
  | _ => .stuck
@[simp] theorem its3_l : its3 ρ (.lst xs) = .ok xs ρ := rfl
@[simp] theorem its3_t : its3 ρ (.tup xs) = .ok xs ρ := rfl
@[simp] theorem its3_s : ∀ q : Str, its3 ρ (.str q) = .ok (signsP q) ρ := fun _ => rfl
def its2 : Res PV → Res (List PV)
  | .ok x ρ => its3 ρ x
  | .exc c as ρ => .exc c as ρ
  | .stuck => .stuck
@[simp] theorem its2_ok : its2 (.ok x ρ) = its3 ρ x := rfl
@[simp] theorem e_dItems : dItems d ρ = its2 (d ρ) := by
  unfold dItems its2
  cases d ρ with
  | ok x ρ1 => cases x <;> rfl
  | _ => rfl
def rg1 (ρ : Rho) : List PV → Res (List PV)
  | [.int j] => if -(2 ^ 62) ≤ j ∧ j < 2 ^ 62 then .ok (rangeL 0 j) ρ else .stuck
  | _ => .stuck
@[simp] theorem rg1_i {j : Int} : rg1 ρ [.int j] = if -(2 ^ 62) ≤ j ∧ j < 2 ^ 62 then .ok (rangeL 0 j) ρ else .stuck := rfl
def rga  : Res (List PV) → Res (List PV)
  | .ok xs ρ => rg1 ρ xs
  | .exc c as ρ => .exc c as ρ
  | .stuck => .stuck
@[simp] theorem e_rga : dRange1 ds ρ = rga  (ds ρ) := by
  unfold dRange1 rga
  cases ds ρ <;> first | rfl | (rename_i v _; cases v <;> rfl) | (dsimp only [Res.bind, Res.toOut]; split <;> rfl)
@[simp] theorem rga_exc : rga  (.exc c as ρ) = .exc c as ρ := rfl
@[simp] theorem rga_ok {xs : List PV} : rga  (.ok xs ρ) = rg1 ρ xs := rfl
def rg2 (ρ : Rho) : List PV → Res (List PV)
  | [.int i, .int j] => if -(2 ^ 62) ≤ i ∧ i < 2 ^ 62 ∧ -(2 ^ 62) ≤ j ∧ j < 2 ^ 62 then .ok (rangeL i j) ρ else .stuck
  | _ => .stuck
@[simp] theorem rg2_i {i j : Int} : rg2 ρ [.int i, .int j] = if -(2 ^ 62) ≤ i ∧ i < 2 ^ 62 ∧ -(2 ^ 62) ≤ j ∧ j < 2 ^ 62 then .ok (rangeL i j) ρ else .stuck := rfl
def rgb  : Res (List PV) → Res (List PV)
  | .ok xs ρ => rg2 ρ xs
  | .exc c as ρ => .exc c as ρ
  | .stuck => .stuck
@[simp] theorem e_rgb : dRange2 ds ρ = rgb  (ds ρ) := by
  unfold dRange2 rgb
  cases ds ρ <;> first | rfl | (rename_i v _; cases v <;> rfl) | (dsimp only [Res.bind, Res.toOut]; split <;> rfl)
@[simp] theorem rgb_exc : rgb  (.exc c as ρ) = .exc c as ρ := rfl
@[simp] theorem rgb_ok {xs : List PV} : rgb  (.ok xs ρ) = rg2 ρ xs := rfl
def en1 (ρ : Rho) : List PV → Res (List PV)
  | [.lst ps] => .ok (enumL 0 ps) ρ
  | _ => .stuck
@[simp] theorem en1_l : en1 ρ [.lst xs] = .ok (enumL 0 xs) ρ := rfl
def ena  : Res (List PV) → Res (List PV)
  | .ok xs ρ => en1 ρ xs
  | .exc c as ρ => .exc c as ρ
  | .stuck => .stuck
@[simp] theorem e_ena : dEnum ds ρ = ena  (ds ρ) := by
  unfold dEnum ena
  cases ds ρ <;> first | rfl | (rename_i v _; cases v <;> rfl) | (dsimp only [Res.bind, Res.toOut]; split <;> rfl)
@[simp] theorem ena_exc : ena  (.exc c as ρ) = .exc c as ρ := rfl
@[simp] theorem ena_ok {xs : List PV} : ena  (.ok xs ρ) = en1 ρ xs := rfl
def zi1 (ρ : Rho) : List PV → Res (List PV)
  | [.lst a, .lst b] => .ok (zipP a b) ρ
  | [.tup a, .tup b] => .ok (zipP a b) ρ
  | _ => .stuck
@[simp] theorem zi1_l : zi1 ρ [.lst xs, .lst ps] = .ok (zipP xs ps) ρ := rfl
@[simp] theorem zi1_t : zi1 ρ [.tup xs, .tup ps] = .ok (zipP xs ps) ρ := rfl
def zia  : Res (List PV) → Res (List PV)
  | .ok xs ρ => zi1 ρ xs
  | .exc c as ρ => .exc c as ρ
  | .stuck => .stuck
@[simp] theorem e_zia : dZip ds ρ = zia  (ds ρ) := by
  unfold dZip zia
  cases ds ρ <;> first | rfl | (rename_i v _; cases v <;> rfl) | (dsimp only [Res.bind, Res.toOut]; split <;> rfl)
@[simp] theorem zia_exc : zia  (.exc c as ρ) = .exc c as ρ := rfl
@[simp] theorem zia_ok {xs : List PV} : zia  (.ok xs ρ) = zi1 ρ xs := rfl
def comp3 (ps : List PV) (ρ : Rho) : Option (List PV) → Res PV
  | some ys => if ps.length ≤ LIM then .ok (.lst ys) ρ else .stuck
  | none => .stuck
@[simp] theorem comp3_s : comp3 ps ρ (some xs) = if ps.length ≤ LIM then .ok (.lst xs) ρ else .stuck := rfl
def comp2 (is : List Nat) (g : Tg) (t : DD Bool) (d : DE) : Res (List PV) → Res PV
  | .ok ps ρ => comp3 ps ρ (compL g t d (wipeR (valsOf ρ) is) ps)
  | .exc c as ρ => .exc c as ρ
  | .stuck => .stuck
@[simp] theorem e_comp2 : dComp is tg ds t d ρ = comp2 is tg t d (ds ρ) := by
  unfold dComp comp2
  cases ds ρ <;> first | rfl | (rename_i v _; cases v <;> rfl) | (dsimp only [Res.bind, Res.toOut]; split <;> rfl)
@[simp] theorem comp2_exc : comp2 is tg t d (.exc c as ρ) = .exc c as ρ := rfl
@[simp] theorem comp2_ok {ps : List PV} : comp2 is tg t d (.ok ps ρ) = comp3 ps ρ (compL tg t d (wipeR (valsOf ρ) is) ps) := rfl
@[simp] theorem e_dFmt : dFmt d ρ = dUn pFmt d ρ := rfl
def js3 (ds : List DE) (acc : Str) : Res PV → Res PV
  | .ok (.str y) ρ => if (acc ++ y).length ≤ LIM then dJ ds (acc ++ y) ρ else .stuck
  | .exc c as ρ => .exc c as ρ
  | _ => .stuck
variable {dsl : List DE} {acc : Str}
@[simp] theorem e_dJnil : dJ [] acc ρ = .ok (.str acc) ρ := rfl
@[simp] theorem e_dJcons : dJ (d :: dsl) acc ρ = js3 dsl acc (d ρ) := by
  show (d ρ).bind _ = js3 dsl acc (d ρ)
  unfold js3
  cases d ρ with
  | ok x ρ1 => cases x <;> rfl
  | _ => rfl
@[simp] theorem js3_ok {y : Str} : js3 dsl acc (.ok (.str y) ρ) = if (acc ++ y).length ≤ LIM then dJ dsl (acc ++ y) ρ else .stuck := rfl
@[simp] theorem e_dDic0 : dDic0 ρ = .ok (.dks [] []) ρ := rfl

def get13 (x : PV) : Res PV → Res PV
  | .ok y ρ => ofO (pGet1 x y) ρ
  | .exc c as ρ => .exc c as ρ
  | .stuck => .stuck
@[simp] theorem get13_ok : get13 x (.ok y ρ) = ofO (pGet1 x y) ρ := rfl
def get12 (db : DE) : Res PV → Res PV
  | .ok x ρ => if isDk x = true then get13 x (db ρ) else .stuck
  | .exc c as ρ => .exc c as ρ
  | .stuck => .stuck
@[simp] theorem get12_ok : get12 db (.ok x ρ) = if isDk x = true then get13 x (db ρ) else .stuck := rfl
@[simp] theorem e_dGet1 : dGet1 da db ρ = get12 db (da ρ) := by
  unfold dGet1 get12
  cases da ρ with
  | ok x ρ1 =>
    have e : (db ρ1).bind (fun y ρ => ofO (pGet1 x y) ρ) = get13 x (db ρ1) := by cases db ρ1 <;> rfl
    show (if isDk x = true then (db ρ1).bind _ else Res.stuck) = if isDk x = true then get13 x (db ρ1) else Res.stuck
    rw [e]
  | _ => rfl
def calb3 (ρ : Rho) : FR → Res PV
  | .ok r => if noD r = true then .ok r ρ else .stuck
  | _ => .stuck
@[simp] theorem calb3_ok : calb3 ρ (.ok x) = if noD x = true then .ok x ρ else .stuck := rfl
def calb2 (i : Nat) (φ : List PV → FR) (z : PV) (ρ : Rho) : Option PV → Res PV
  | some c => calb3 ρ (φ [z, c])
  | none => .stuck
@[simp] theorem calb2_s : calb2 i φ z ρ (some x) = calb3 ρ (φ [z, x]) := rfl
def calb1 (i : Nat) (φ : List PV → FR) : Res PV → Res PV
  | .ok z ρ => if isDkM ρ i = true then calb2 i φ z ρ (slotM ρ i) else .stuck
  | .exc c as ρ => .exc c as ρ
  | .stuck => .stuck
@[simp] theorem calb1_ok : calb1 i φ (.ok z ρ) = if isDkM ρ i = true then calb2 i φ z ρ (slotM ρ i) else .stuck := rfl
@[simp] theorem e_dCallB : dCallB i φ d ρ = calb1 i φ (d ρ) := by
  unfold dCallB calb1
  cases d ρ with
  | ok z ρ1 =>
    show (if isDkM ρ1 i = true then _ else _) = if isDkM ρ1 i = true then calb2 i φ z ρ1 (slotM ρ1 i) else _
    by_cases h : isDkM ρ1 i = true
    · rw [if_pos h, if_pos h]
      cases slotM ρ1 i with
      | none => rfl
      | some c => show (match φ [z, c] with | .ok r => _ | _ => _) = calb3 ρ1 (φ [z, c]); cases φ [z, c] <;> rfl
    · rw [if_neg h, if_neg h]
  | _ => rfl
@[simp] theorem e_sNewD : sNewD i ρ = .nx (ρ.set i (some (.own (.dks [] [])))) := rfl
def puts4 (i : Nat) (ρ : Rho) : Option PV → Out
  | some c => .nx (putM ρ i c)
  | none => .stuck
@[simp] theorem puts4_s : puts4 i ρ (some x) = .nx (putM ρ i x) := rfl
def puts3 (i : Nat) (y k : PV) (ρ : Rho) : Option PV → Out
  | some c => puts4 i ρ (putDk c k y)
  | none => .stuck
@[simp] theorem puts3_s : puts3 i y z ρ (some x) = puts4 i ρ (putDk x z y) := rfl
def puts2 (i : Nat) (y : PV) : Res PV → Out
  | .ok k ρ => puts3 i y k ρ (slotM ρ i)
  | .exc c as ρ => .exc c as ρ
  | .stuck => .stuck
@[simp] theorem puts2_ok : puts2 i y (.ok x ρ) = puts3 i y x ρ (slotM ρ i) := rfl
def puts1 (i : Nat) (dk : DE) : Res PV → Out
  | .ok y ρ => if isDkM ρ i = true then puts2 i y (dk ρ) else .stuck
  | .exc c as ρ => .exc c as ρ
  | .stuck => .stuck
@[simp] theorem puts1_ok : puts1 i d (.ok y ρ) = if isDkM ρ i = true then puts2 i y (d ρ) else .stuck := rfl
@[simp] theorem e_sPutS : sPutS i da db ρ = puts1 i da (db ρ) := by
  unfold sPutS puts1
  cases db ρ with
  | ok y ρ1 =>
    show (if isDkM ρ1 i = true then _ else _) = if isDkM ρ1 i = true then puts2 i y (da ρ1) else _
    by_cases h : isDkM ρ1 i = true
    · rw [if_pos h, if_pos h]
      cases da ρ1 with
      | ok k ρ2 =>
        show (match slotM ρ2 i with | some c => _ | none => _) = puts3 i y k ρ2 (slotM ρ2 i)
        cases slotM ρ2 i with
        | none => rfl
        | some c => show (match putDk c k y with | some c' => _ | none => _) = puts4 i ρ2 (putDk c k y); cases putDk c k y <;> rfl
      | _ => rfl
    · rw [if_neg h, if_neg h]
  | _ => rfl
def try2 (n : List Nat) (sub : Nat → Nat → Bool) (hs : List (Nat × DS)) : Out → Out
  | .exc c as ρ => if n.contains c = true then hndl sub hs c as ρ else .stuck
  | o => o
variable {is : List Nat} {sub : Nat → Nat → Bool} {hs : List (Nat × DS)}
@[simp] theorem e_sTry : sTry is sub s hs ρ = try2 is sub hs (s ρ) := by
  unfold sTry try2
  cases s ρ <;> rfl
@[simp] theorem try2_nx : try2 is sub hs (.nx ρ) = .nx ρ := rfl
@[simp] theorem try2_rt : try2 is sub hs (.rt p ρ) = .rt p ρ := rfl
@[simp] theorem try2_exc : try2 is sub hs (.exc c as ρ) = if is.contains c = true then hndl sub hs c as ρ else .stuck := rfl
def tryl2 (c i j : Nat) (sub : Nat → Nat → Bool) (n : List Nat) : Out → Out
  | .exc c' as ρ => if n.contains c' = true then (if sub c' c = true then lineK c i j c' ρ as else .exc c' as ρ) else .stuck
  | o => o
@[simp] theorem e_sTryL : sTryL c i j sub is s ρ = tryl2 c i j sub is (s ρ) := by
  unfold sTryL tryl2
  cases s ρ <;> rfl
@[simp] theorem tryl2_nx : tryl2 c i j sub is (.nx ρ) = .nx ρ := rfl
@[simp] theorem tryl2_rt : tryl2 c i j sub is (.rt p ρ) = .rt p ρ := rfl
@[simp] theorem tryl2_exc : tryl2 c i j sub is (.exc n as ρ) = if is.contains n = true then (if sub n c = true then lineK c i j n ρ as else .exc n as ρ) else .stuck := rfl
@[simp] theorem lineK_1 : lineK c i j n ρ [x] = if n = c ∧ i < ρ.length then .nx ((ρ.set j (some (.val x))).set i none) else .stuck := rfl
end
section
variable {i j : Int} {x y z : PV} {xs ys : List PV} {b c : Bool} {s t : Str}
@[simp] theorem pAdd_i : pAdd (.int i) (.int j) = some (.int (i + j)) := rfl
@[simp] theorem pAdd_l : pAdd (.lst xs) (.lst ys) = if xs.length + ys.length ≤ LIM then some (.lst (xs ++ ys)) else none := rfl
@[simp] theorem pAdd_t : pAdd (.tup xs) (.tup ys) = if xs.length + ys.length ≤ LIM then some (.tup (xs ++ ys)) else none := rfl
@[simp] theorem pAdd_s : pAdd (.str s) (.str t) = if s.length + t.length ≤ LIM then some (.str (s ++ t)) else none := rfl
@[simp] theorem pSub_i : pSub (.int i) (.int j) = some (.int (i - j)) := rfl
@[simp] theorem pMod_i (h : 0 < j) : pMod (.int i) (.int j) = some (.int (i % j)) := if_pos h
theorem pMul_s (h : j.natAbs < 2 ^ 63 ∨ i.natAbs < 2 ^ 63) : pMul (.int i) (.int j) = some (.int (i * j)) := if_pos (.inr h)
theorem pDiv_s (h : 0 < j) (h2 : j.natAbs < 2 ^ 8000) : pDiv (.int i) (.int j) = some (.int (i / j)) := by
  refine if_pos ⟨h, ?_⟩
  have : j.natAbs.log2 < 8000 := (Nat.log2_lt (by omega)).mpr h2
  omega
@[simp] theorem pNeg_i : pNeg (.int i) = some (.int (-i)) := rfl
@[simp] theorem pLt_i : pLt (.int i) (.int j) = some (.bl (decide (i < j))) := rfl
@[simp] theorem pLe_i : pLe (.int i) (.int j) = some (.bl (decide (i ≤ j))) := rfl
@[simp] theorem pGt_i : pGt (.int i) (.int j) = some (.bl (decide (j < i))) := rfl
@[simp] theorem pGe_i : pGe (.int i) (.int j) = some (.bl (decide (j ≤ i))) := rfl
@[simp] theorem pEq_i : pEq (.int i) (.int j) = some (.bl (decide (i = j))) := rfl
@[simp] theorem pNe_i : pNe (.int i) (.int j) = some (.bl (!decide (i = j))) := rfl
@[simp] theorem pEq_b : pEq (.bl b) (.bl c) = some (.bl (b == c)) := by cases b <;> cases c <;> rfl
@[simp] theorem pNe_b : pNe (.bl b) (.bl c) = some (.bl (!(b == c))) := by cases b <;> cases c <;> rfl
@[simp] theorem pIsN_n : pIsN x .non = some (.bl (isN x)) := rfl
@[simp] theorem pNotN_n : pNotN x .non = some (.bl (!isN x)) := rfl
@[simp] theorem isN_n : isN .non = true := rfl
@[simp] theorem isN_i : isN (.int i) = false := rfl
@[simp] theorem isN_s : isN (.str s) = false := rfl
@[simp] theorem isN_t : isN (.tup xs) = false := rfl
@[simp] theorem isN_l : isN (.lst xs) = false := rfl
@[simp] theorem isN_b : isN (.bl b) = false := rfl
@[simp] theorem asB_b : asB (.bl b) = some b := rfl
@[simp] theorem truth_b : truth (.bl b) = some b := rfl
@[simp] theorem truth_i : truth (.int i) = some (i != 0) := rfl
@[simp] theorem truth_n : truth .non = some false := rfl
@[simp] theorem truth_t : truth (.tup xs) = some !xs.isEmpty := rfl
@[simp] theorem truth_l : truth (.lst xs) = some !xs.isEmpty := rfl
@[simp] theorem fLen_l : fLen [.lst xs] = some (.int xs.length) := rfl
@[simp] theorem fLen_t : fLen [.tup xs] = some (.int xs.length) := rfl
@[simp] theorem fIntA_i : fIntA [.int i] = some (.int i) := rfl
@[simp] theorem fIntA_b : fIntA [.bl b] = some (.int (if b then 1 else 0)) := rfl
@[simp] theorem fTuple_l : fTuple [.lst xs] = some (.tup xs) := rfl
@[simp] theorem fMax2_i : fMax2 [.int i, .int j] = some (.int (if j > i then j else i)) := rfl
@[simp] theorem fMin2_i : fMin2 [.int i, .int j] = some (.int (if j < i then j else i)) := rfl
@[simp] theorem pIx_l : pIx (.lst xs) (.int i) = atI xs i := rfl
@[simp] theorem pIx_t : pIx (.tup xs) (.int i) = atI xs i := rfl
@[simp] theorem pIsi_int : pIsi "int" (.int i) = some (.bl true) := rfl
@[simp] theorem pStarts_s : pStarts (.str s) (.str t) = some (.bl (Txt.startswith s t)) := rfl
@[simp] theorem pIn_s : pIn (.str s) (.str t) = some (.bl (inStr s t)) := rfl
@[simp] theorem pNotIn_s : pNotIn (.str s) (.str t) = some (.bl (!inStr s t)) := rfl
@[simp] theorem pSplit_s : pSplit (.str s) (.str t) = if (t.length == 0) = false ∧ s.length + 2 ≤ LIM then some (.lst ((Txt.split s t).map .str)) else none := rfl
@[simp] theorem truth_s : truth (.str s) = if s.length ≤ 1000000 then some ((s.length : Int) != 0) else none := rfl
@[simp] theorem isDk_d : isDk (.dks xs ys) = true := rfl
@[simp] theorem tyes_e {ρ : Rho} : tyesD ρ = .ok true ρ := rfl
theorem at_nat {α : Type} {l : List α} {n : Nat} : atI l (n : Int) = l[n]? := by
  unfold atI ixN
  by_cases h : n < l.length
  · have h2 : (n : Int) < (l.length : Int) := by omega
    simp [h2]
  · have h2 : ¬ (n : Int) < (l.length : Int) := by omega
    simp [h2, h]
@[simp] theorem at_0 {α : Type} {a : α} {l : List α} : atI (a :: l) 0 = some a := by
  have := at_nat (l := a :: l) (n := 0)
  simpa using this
@[simp] theorem at_1 {α : Type} {a b : α} {l : List α} : atI (a :: b :: l) 1 = some b := by
  have := at_nat (l := a :: b :: l) (n := 1)
  simpa using this
@[simp] theorem at_2 {α : Type} {a b c : α} {l : List α} : atI (a :: b :: c :: l) 2 = some c := by
  have := at_nat (l := a :: b :: c :: l) (n := 2)
  simpa using this
@[simp] theorem at_3 {α : Type} {a b c d : α} {l : List α} : atI (a :: b :: c :: d :: l) 3 = some d := by
  have := at_nat (l := a :: b :: c :: d :: l) (n := 3)
  simpa using this
@[simp] theorem at_4 {α : Type} {a b c d e : α} {l : List α} : atI (a :: b :: c :: d :: e :: l) 4 = some e := by
  have := at_nat (l := a :: b :: c :: d :: e :: l) (n := 4)
  simpa using this
end
/-! ### loops -/
theorem forL_append {g : Tg} {d : DS} : ∀ {ps qs : List PV} {ρ ρ' : Rho}, forL g d ps ρ = .nx ρ' → forL g d (ps ++ qs) ρ = forL g d qs ρ'
  | [], qs, ρ, ρ', h => by cases h; rfl
  | p :: ps, qs, ρ, ρ', h => by
    unfold forL at h
    show (match g.set p ρ with
      | some ρ1 => (d ρ1).thn (forL g d (ps ++ qs))
      | none => .stuck) = _
    cases e : g.set p ρ with
    | none => rw [e] at h; cases h
    | some ρ1 =>
      rw [e] at h
      dsimp only at h ⊢
      cases ed : d ρ1 with
      | nx ρ2 => rw [ed] at h; exact forL_append h
      | rt p ρ2 => rw [ed] at h; cases h
      | exc c as ρ2 => rw [ed] at h; cases h
      | stuck => rw [ed] at h; cases h
theorem forL_exc {g : Tg} {d : DS} {p : PV} {ps : List PV} {ρ ρ1 ρ2 : Rho} {c : Nat} {as : List PV} (h : g.set p ρ = some ρ1) (h2 : d ρ1 = .exc c as ρ2) : forL g d (p :: ps) ρ = .exc c as ρ2 := by
  unfold forL
  rw [h]
  simp only [h2, Out.thn]
theorem forL_nx {g : Tg} {d : DS} {p : PV} {ps : List PV} {ρ ρ1 ρ2 : Rho} (h : g.set p ρ = some ρ1) (h2 : d ρ1 = .nx ρ2) : forL g d (p :: ps) ρ = forL g d ps ρ2 := by
  show (match g.set p ρ with
      | some ρ1 => (d ρ1).thn (forL g d ps)
      | none => .stuck) = _
  rw [h]
  simp only [h2, Out.thn]
theorem forL_rt {g : Tg} {d : DS} {p q : PV} {ps : List PV} {ρ ρ1 ρ2 : Rho} (h : g.set p ρ = some ρ1) (h2 : d ρ1 = .rt q ρ2) : forL g d (p :: ps) ρ = .rt q ρ2 := by
  unfold forL
  rw [h]
  simp only [h2, Out.thn]
@[simp] theorem forL_nil {g : Tg} {d : DS} {ρ : Rho} : forL g d [] ρ = .nx ρ := rfl
end Pl

set_option maxHeartbeats 4000000
/-! what the defs of the text and of the law mean (printed by gen.py). -/
namespace Pl
open PySem PySem.Spec PyProof.Rows L2

set_option genInjectivity false in
set_option genSizeOfSpec false in
structure Env where
  p_is_whole : List PV → FR
  p_are_numbers : List PV → FR
  p_is_nested : List PV → FR
  p_is_region : List PV → FR
  p_check_region : List PV → FR
  p_inner_regions : List PV → FR
  p_is_colour : List PV → FR
  p_is_paint : List PV → FR
  p_is_picture : List PV → FR
  p_check_picture : List PV → FR
  p_text_of : List PV → FR
  p_write : List PV → FR
  p_number_of : List PV → FR
  p_numbers_of : List PV → FR
  p_cut : List PV → FR
  p_plain_in : List PV → FR
  p_moved_in : List PV → FR
  p_region_in : List PV → FR
  p_brackets : List PV → FR
  p_good_region : List PV → FR
  p_read : List PV → FR
  p_write_picture : List PV → FR
  p_head_and_region : List PV → FR
  p_is_name : List PV → FR
  p_read_picture : List PV → FR
  o_l_begin : List PV → Option PV
  i_l_draw : PV → List PV → FRI
  i_l_plain : PV → List PV → FRI
  i_l_region : PV → List PV → FRI
  p_l_row : List PV → FR
  p_l_has : List PV → FR
  p_l_cells : List PV → FR
  i_l_picture : PV → List PV → FRI
  p_l_colour : List PV → FR
  p_l_like : List PV → FR
  p_l_text : List PV → FR
  p_law_k09 : List PV → FR
def tb_PLAIN : List (Str × PV) := [("all", (.tup [])), ("none", (.tup [])), ("high", (.tup [(.str "a")])), ("wide", (.tup [(.str "a")])), ("rows", (.tup [(.str "a"), (.str "k")])), ("rows_up", (.tup [(.str "a"), (.str "k")])), ("cols", (.tup [(.str "a"), (.str "k")])), ("cols_back", (.tup [(.str "a"), (.str "k")])), ("border", (.tup [(.str "a")]))]

def tb_INNER : List (Str × PV) := [("and", (.int 2)), ("or", (.int 2)), ("not", (.int 1)), ("mirror", (.int 1)), ("flip", (.int 1)), ("turn", (.int 1))]

def SUB (c k : Nat) : Bool := c == k || k == 0

def d_is_whole (E : Env) : DS :=
  (sRet (dAndV (dIsi "int" (dVar 0)) (dAndV (dNotV (dIsi "bool" (dVar 0))) (dChain pLe pLe (dVar 1) (dVar 0) (dVar 2)))))
@[reducible] def c_are_numbers_0 (E : Env) : DE :=
  (dCall E.p_is_whole (dCons (dVar 3) (dCons (dC (.int 0)) (dCons (dIf (dAsB (dBin pEq (dVar 2) (dC (.str "a")))) (dC (.int 9)) (dC (.int 6))) dNil))))
def d_are_numbers (E : Env) : DS :=
  (sSeq (sIf (dAsB (dBin pNe (dFun fLen (dCons (dVar 1) dNil)) (dFun fLen (dCons (dVar 0) dNil)))) (sRet (dC (.bl false))) sNil)
    (sRet (dFun fAll (dCons (dComp [2, 3] (.tup [2, 3]) (dZip (dCons (dVar 0) (dCons (dVar 1) dNil))) tyesD (c_are_numbers_0 E)) dNil))))
@[reducible] def c_is_nested_0 (E : Env) : DE :=
  (dCall E.p_is_nested (dCons (dVar 2) (dCons (dBin pSub (dVar 1) (dC (.int 1))) dNil)))
@[reducible] def c_is_nested_1 (E : Env) : DE :=
  (dCall E.p_is_whole (dCons (dVar 2) (dCons (dUn pNeg (dC (.int 6))) (dCons (dC (.int 6)) dNil))))
def d_is_nested (E : Env) : DS :=
  (sSeq (sIf (dOr (dAsB (dBin pEq (dVar 1) (dC (.int 0)))) (dOr (dNot (dTru (dIsi "tuple" (dVar 0)))) (dOr (dNot (dTru (dVar 0))) (dNot (dTru (dIsi "str" (dBin pIx (dVar 0) (dC (.int 0))))))))) (sRet (dC (.bl false))) sNil)
    (sSeq (sIf (dAsB (dUn (pInT tb_PLAIN) (dBin pIx (dVar 0) (dC (.int 0))))) (sRet (dCall E.p_are_numbers (dCons (dGetT tb_PLAIN (dBin pIx (dVar 0) (dC (.int 0)))) (dCons (dSl (dVar 0) (some (dC (.int 1))) none) dNil)))) sNil)
    (sSeq (sIf (dAsB (dUn (pInT tb_INNER) (dBin pIx (dVar 0) (dC (.int 0))))) (sRet (dAndV (dBin pEq (dFun fLen (dCons (dVar 0) dNil)) (dBin pAdd (dC (.int 1)) (dGetT tb_INNER (dBin pIx (dVar 0) (dC (.int 0)))))) (dFun fAll (dCons (dComp [2] (.one 2) (dItems (dSl (dVar 0) (some (dC (.int 1))) none)) tyesD (c_is_nested_0 E)) dNil)))) sNil)
    (sSeq (sIf (dOr (dAsB (dBin pNe (dBin pIx (dVar 0) (dC (.int 0))) (dC (.str "move")))) (dOr (dAsB (dBin pNe (dFun fLen (dCons (dVar 0) dNil)) (dC (.int 4)))) (dNot (dTru (dFun fAll (dCons (dComp [2] (.one 2) (dItems (dSl (dVar 0) (some (dC (.int 1))) (some (dC (.int 3))))) tyesD (c_is_nested_1 E)) dNil)))))) (sRet (dC (.bl false))) sNil)
    (sRet (dCall E.p_is_nested (dCons (dBin pIx (dVar 0) (dC (.int 3))) (dCons (dBin pSub (dVar 1) (dC (.int 1))) dNil))))))))
def d_is_region (E : Env) : DS :=
  (sRet (dCall E.p_is_nested (dCons (dVar 0) (dCons (dC (.int 8)) dNil))))
def d_check_region (E : Env) : DS :=
  (sIf (dNot (dTru (dCall E.p_is_region (dCons (dVar 0) dNil)))) (sRaise 1) sNil)
def d_inner_regions (E : Env) : DS :=
  (sSeq (sIf (dAsB (dBin pEq (dBin pIx (dVar 0) (dC (.int 0))) (dC (.str "move")))) (sRet (dLst (dCons (dBin pIx (dVar 0) (dC (.int 3))) dNil))) sNil)
    (sRet (dIf (dAsB (dUn (pInT tb_INNER) (dBin pIx (dVar 0) (dC (.int 0))))) (dFun fList (dCons (dSl (dVar 0) (some (dC (.int 1))) none) dNil)) (dLst dNil))))
@[reducible] def c_is_colour_0 (E : Env) : DE :=
  (dBin pIn (dVar 1) (dC (.str "abcdefghijklmnopqrstuvwxyz")))
def d_is_colour (E : Env) : DS :=
  (sRet (dAndV (dIsi "str" (dVar 0)) (dAndV (dChain pLe pLe (dC (.int 1)) (dFun fLen (dCons (dVar 0) dNil)) (dC (.int 6))) (dFun fAll (dCons (dComp [1] (.one 1) (dItems (dVar 0)) tyesD (c_is_colour_0 E)) dNil)))))
def d_is_paint (E : Env) : DS :=
  (sRet (dAndV (dIsi "tuple" (dVar 0)) (dAndV (dBin pEq (dFun fLen (dCons (dVar 0) dNil)) (dC (.int 2))) (dAndV (dCall E.p_is_colour (dCons (dBin pIx (dVar 0) (dC (.int 0))) dNil)) (dCall E.p_is_region (dCons (dBin pIx (dVar 0) (dC (.int 1))) dNil))))))
@[reducible] def c_is_picture_0 (E : Env) : DE :=
  (dCall E.p_is_paint (dCons (dVar 1) dNil))
def d_is_picture (E : Env) : DS :=
  (sRet (dAndV (dIsi "tuple" (dVar 0)) (dAndV (dBin pLe (dFun fLen (dCons (dVar 0) dNil)) (dC (.int 6))) (dFun fAll (dCons (dComp [1] (.one 1) (dItems (dVar 0)) tyesD (c_is_picture_0 E)) dNil)))))
def d_check_picture (E : Env) : DS :=
  (sIf (dNot (dTru (dCall E.p_is_picture (dCons (dVar 0) dNil)))) (sRaise 4) sNil)
@[reducible] def c_text_of_0 (E : Env) : DE :=
  (dFun fStr (dCons (dVar 3) dNil))
@[reducible] def c_text_of_1 (E : Env) : DE :=
  (dCall E.p_text_of (dCons (dVar 2) dNil))
def d_text_of (E : Env) : DS :=
  (sSeq (sIf (dAsB (dUn (pInT tb_PLAIN) (dBin pIx (dVar 0) (dC (.int 0))))) (sRet (dBinS pJoin (dC (.str " ")) (dComp [3] (.one 3) (dItems (dVar 0)) tyesD (c_text_of_0 E)))) sNil)
    (sSeq (sSet 1 (dBinS pJoin (dC (.str ", ")) (dComp [2] (.one 2) (dItems (dCall E.p_inner_regions (dCons (dVar 0) dNil))) tyesD (c_text_of_1 E))))
    (sSeq (sIf (dAsB (dBin pEq (dBin pIx (dVar 0) (dC (.int 0))) (dC (.str "move")))) (sRet (dJ [(dC (.str "move(")), (dFmt (dBin pIx (dVar 0) (dC (.int 1)))), (dC (.str " ")), (dFmt (dBin pIx (dVar 0) (dC (.int 2)))), (dC (.str ", ")), (dFmt (dVar 1)), (dC (.str ")"))] Str.empty)) sNil)
    (sRet (dJ [(dFmt (dBin pIx (dVar 0) (dC (.int 0)))), (dC (.str "(")), (dFmt (dVar 1)), (dC (.str ")"))] Str.empty)))))
def d_write (E : Env) : DS :=
  (sSeq (sExpr (dCall E.p_check_region (dCons (dVar 0) dNil)))
    (sRet (dCall E.p_text_of (dCons (dVar 0) dNil))))
def d_number_of (E : Env) : DS :=
  (sSeq (sSet 1 (dIf (dAsB (dBin pEq (dSl (dVar 0) none (some (dC (.int 1)))) (dC (.str "-")))) (dSl (dVar 0) (some (dC (.int 1))) none) (dVar 0)))
    (sSeq (sIf (dOr (dAsB (dBin pNe (dFun fLen (dCons (dVar 1) dNil)) (dC (.int 1)))) (dOr (dAsB (dBin pNotIn (dVar 1) (dC (.str "0123456789")))) (dAsB (dBin pEq (dVar 0) (dC (.str "-0")))))) (sRet (dC .non)) sNil)
    (sRet (dFun fIntA (dCons (dVar 0) dNil)))))
@[reducible] def c_numbers_of_0 (E : Env) : DE :=
  (dCall E.p_number_of (dCons (dVar 2) dNil))
def d_numbers_of (E : Env) : DS :=
  (sSeq (sSet 1 (dComp [2] (.one 2) (dItems (dVar 0)) tyesD (c_numbers_of_0 E)))
    (sRet (dIf (dAsB (dBin pIn (dC .non) (dVar 1))) (dC .non) (dVar 1))))
@[reducible] def t_cut_0 (E : Env) : DD Bool :=
  (dAsB (dBin pLt (dVar 3) (dFun fLen (dCons (dVar 0) dNil))))
@[reducible] def w_cut_1 (E : Env) : DS :=
  (sSeq (sSet 4 (dBin pIx (dVar 0) (dVar 3)))
    (sSeq (sAug 2 pIpAdd (dPickG [("(", (dC (.int 1))), (")", (dC (.int (-1))))] (dVar 4) (dC (.int 0))))
    (sSeq (sIf (dAsB (dBin pLt (dVar 2) (dC (.int 0)))) (sRet (dC .non)) sNil)
    (sIf (dAnd (dAsB (dBin pEq (dVar 2) (dC (.int 0)))) (dAsB (dBin pEq (dSl (dVar 0) (some (dVar 3)) (some (dBin pAdd (dVar 3) (dC (.int 2))))) (dC (.str ", "))))) (sSeq (sApp' 1 (dC (.str "")))
    (sAug 3 pIpAdd (dC (.int 2)))) (sSeq (sPut 1 (dBin pAdd (dIxA 1 (dUn pNeg (dC (.int 1)))) (dVar 4)) (dUn pNeg (dC (.int 1))))
    (sAug 3 pIpAdd (dC (.int 1))))))))
def d_cut (E : Env) : DS :=
  (sSeq (sNewL 1 (dCons (dC (.str "")) dNil))
    (sSeq (sSet 2 (dC (.int 0)))
    (sSeq (sSet 3 (dC (.int 0)))
    (sSeq (whileL (t_cut_0 E) (w_cut_1 E) 1000000)
    (sRet (dIf (dAsB (dBin pEq (dVar 2) (dC (.int 0)))) (dRd 1) (dC .non)))))))
def d_plain_in (E : Env) : DS :=
  (sSeq (sSet 2 (dBinS pSplit (dVar 0) (dC (.str " "))))
    (sSeq (sIf (dAsB (dUn (pInT tb_PLAIN) (dBin pIx (dVar 2) (dC (.int 0))))) (sSeq (sSet 3 (dCall E.p_numbers_of (dCons (dSl (dVar 2) (some (dC (.int 1))) none) dNil)))
    (sRet (dIf (dAsB (dBin pIsN (dVar 3) (dC .non))) (dC .non) (dBin pAdd (dTup (dCons (dBin pIx (dVar 2) (dC (.int 0))) dNil)) (dFun fTuple (dCons (dVar 3) dNil)))))) sNil)
    (sRet (dGet1 (dVar 1) (dVar 0)))))
def d_moved_in (E : Env) : DS :=
  (sSeq (sSet 2 (dCall E.p_numbers_of (dCons (dBinS pSplit (dBin pIx (dVar 0) (dC (.int 0))) (dC (.str " "))) dNil)))
    (sSeq (sSet 3 (dIf (dAsB (dBin pEq (dFun fLen (dCons (dVar 0) dNil)) (dC (.int 2)))) (dCall E.p_region_in (dCons (dBin pIx (dVar 0) (dC (.int 1))) (dCons (dVar 1) dNil))) (dC .non)))
    (sSeq (sIf (dOr (dAsB (dBin pIsN (dVar 2) (dC .non))) (dOr (dAsB (dBin pNe (dFun fLen (dCons (dVar 2) dNil)) (dC (.int 2)))) (dAsB (dBin pIsN (dVar 3) (dC .non))))) (sRet (dC .non)) sNil)
    (sRet (dTup (dCons (dC (.str "move")) (dCons (dBin pIx (dVar 2) (dC (.int 0))) (dCons (dBin pIx (dVar 2) (dC (.int 1))) (dCons (dVar 3) dNil)))))))))
@[reducible] def c_region_in_0 (E : Env) : DE :=
  (dCall E.p_region_in (dCons (dVar 5) (dCons (dVar 1) dNil)))
def d_region_in (E : Env) : DS :=
  (sSeq (sSet 2 (dBin pIx (dBinS pSplit (dVar 0) (dC (.str "("))) (dC (.int 0))))
    (sSeq (sIf (dAsB (dBin pNotIn (dC (.str "(")) (dVar 0))) (sRet (dCall E.p_plain_in (dCons (dVar 0) (dCons (dVar 1) dNil)))) sNil)
    (sSeq (sSet 3 (dIf (dAsB (dBin pEq (dBin pIx (dVar 0) (dUn pNeg (dC (.int 1)))) (dC (.str ")")))) (dCall E.p_cut (dCons (dSl (dVar 0) (some (dBin pAdd (dFun fLen (dCons (dVar 2) dNil)) (dC (.int 1)))) (some (dUn pNeg (dC (.int 1))))) dNil)) (dC .non)))
    (sSeq (sIf (dAsB (dBin pIsN (dVar 3) (dC .non))) (sRet (dC .non)) sNil)
    (sSeq (sIf (dAsB (dBin pEq (dVar 2) (dC (.str "move")))) (sRet (dCall E.p_moved_in (dCons (dVar 3) (dCons (dVar 1) dNil)))) sNil)
    (sSeq (sIf (dOr (dAsB (dUn (pNotInT tb_INNER) (dVar 2))) (dAsB (dBin pNe (dFun fLen (dCons (dVar 3) dNil)) (dGetT tb_INNER (dVar 2))))) (sRet (dC .non)) sNil)
    (sSeq (sSet 4 (dComp [5] (.one 5) (dItems (dVar 3)) tyesD (c_region_in_0 E)))
    (sRet (dIf (dAsB (dBin pIn (dC .non) (dVar 4))) (dC .non) (dBin pAdd (dTup (dCons (dVar 2) dNil)) (dFun fTuple (dCons (dVar 4) dNil))))))))))))
@[reducible] def b_brackets_0 (E : Env) : DS :=
  (sSeq (sAug 2 pIpAdd (dPickG [("(", (dC (.int 1))), (")", (dC (.int (-1))))] (dVar 3) (dC (.int 0))))
    (sSet 1 (dFun fMax2 (dCons (dVar 1) (dCons (dVar 2) dNil)))))
def d_brackets (E : Env) : DS :=
  (sSeq (sAsg (.tup [1, 2]) (dTup (dCons (dC (.int 0)) (dCons (dC (.int 0)) dNil))))
    (sSeq (sFor (.one 3) (dItems (dVar 0)) (b_brackets_0 E))
    (sRet (dVar 1))))
def d_good_region (E : Env) : DS :=
  (sSeq (sSet 2 (dIf (dAnd (dTru (dVar 0)) (dAsB (dBin pLe (dCall E.p_brackets (dCons (dVar 0) dNil)) (dC (.int 8))))) (dCall E.p_region_in (dCons (dVar 0) (dCons (dVar 1) dNil))) (dC .non)))
    (sRet (dIf (dAnd (dAsB (dBin pNotN (dVar 2) (dC .non))) (dTru (dCall E.p_is_region (dCons (dVar 2) dNil)))) (dVar 2) (dC .non))))
def d_read (E : Env) : DS :=
  (sSeq (sSet 1 (dCall E.p_good_region (dCons (dVar 0) (dCons dDic0 dNil))))
    (sSeq (sIf (dAsB (dBin pIsN (dVar 1) (dC .non))) (sRaise 6) sNil)
    (sRet (dVar 1))))
@[reducible] def c_write_picture_0 (E : Env) : DE :=
  (dJ [(dFmt (dVar 1)), (dC (.str " ")), (dFmt (dCall E.p_text_of (dCons (dVar 2) dNil)))] Str.empty)
def d_write_picture (E : Env) : DS :=
  (sSeq (sExpr (dCall E.p_check_picture (dCons (dVar 0) dNil)))
    (sRet (dBinS pJoin (dC (.str "\n")) (dComp [1, 2] (.tup [1, 2]) (dItems (dVar 0)) tyesD (c_write_picture_0 E)))))
def d_head_and_region (E : Env) : DS :=
  (sSeq (sIf (dAnd (dTru (dBinS pStarts (dVar 0) (dC (.str "let ")))) (dAsB (dBin pIn (dC (.str " = ")) (dVar 0)))) (sSeq (sSet 2 (dBinS pIndex (dVar 0) (dC (.str " = "))))
    (sPar 3 4 (dCons (dSl (dVar 0) (some (dFun fLen (dCons (dC (.str "let ")) dNil))) (some (dVar 2))) (dCons (dSl (dVar 0) (some (dBin pAdd (dVar 2) (dFun fLen (dCons (dC (.str " = ")) dNil)))) none) dNil)))) (sPar 3 4 (dCons (dBin pIx (dBinS pSplit (dVar 0) (dC (.str " "))) (dC (.int 0))) (dCons (dSl (dVar 0) (some (dBin pAdd (dFun fLen (dCons (dBin pIx (dBinS pSplit (dVar 0) (dC (.str " "))) (dC (.int 0))) dNil)) (dC (.int 1)))) none) dNil))))
    (sRet (dTup (dCons (dIf (dTru (dCall E.p_is_colour (dCons (dVar 3) dNil))) (dVar 3) (dC .non)) (dCons (dCall E.p_good_region (dCons (dVar 4) (dCons (dVar 1) dNil))) dNil)))))
def d_is_name (E : Env) : DS :=
  (sRet (dAndV (dBin pNotN (dVar 0) (dC .non)) (dAndV (dBin pNotIn (dVar 0) (dC (.tup [(.str "all"), (.str "none"), (.str "high"), (.str "wide"), (.str "rows"), (.str "rows_up"), (.str "cols"), (.str "cols_back"), (.str "border"), (.str "and"), (.str "or"), (.str "not"), (.str "mirror"), (.str "flip"), (.str "turn"), (.str "move")]))) (dBin pNe (dVar 0) (dC (.str "let"))))))
@[reducible] def b_read_picture_0 (E : Env) : DS :=
  (sSeq (sAsg (.tup [5, 6]) (dCallB 1 E.p_head_and_region (dVar 4)))
    (sSeq (sSet 7 (dAndV (dBinS pStarts (dVar 4) (dC (.str "let "))) (dBin pIn (dC (.str " = ")) (dVar 4))))
    (sSeq (sIf (dOr (dAsB (dBin pIsN (dVar 5) (dC .non))) (dOr (dAsB (dBin pIsN (dVar 6) (dC .non))) (dAnd (dTru (dVar 7)) (dNot (dTru (dCall E.p_is_name (dCons (dVar 5) dNil))))))) (sRaiseA 7 (dBin pAdd (dVar 3) (dC (.int 1)))) sNil)
    (sIf (dTru (dVar 7)) (sPutS 1 (dVar 5) (dVar 6)) (sIf (dAsB (dBin pEq (dLenA 2) (dC (.int 6)))) (sRaiseA 7 (dBin pAdd (dVar 3) (dC (.int 1)))) (sApp' 2 (dTup (dCons (dVar 5) (dCons (dVar 6) dNil)))))))))
def d_read_picture (E : Env) : DS :=
  (sSeq (sNewD 1)
    (sSeq (sNewL 2 dNil)
    (sSeq (sFor (.tup [3, 4]) (dEnum (dCons (dIf (dTru (dVar 0)) (dBinS pSplit (dVar 0) (dC (.str "\n"))) (dLst dNil)) dNil)) (b_read_picture_0 E))
    (sRet (dFun fTuple (dCons (dRd 2) dNil))))))
def d_l_begin (E : Env) : DD (List PV) :=
  (dCons (dFun fList (dCons (dVar 0) dNil)) (dCons (dC (.int 0)) (dCons (dC (.int 0)) (dCons (dC (.int 7)) dNil))))
def d_l_draw (E : Env) : DS :=
  (sSeq (sIf (dAsB (dBin pEq (dIxM 0 (dC (.int 2))) (dC (.int 0)))) (sIf (dAsB (dBin pLt (dIxM 0 (dC (.int 1))) (dFun fLen (dCons (dIxM 0 (dC (.int 0))) dNil)))) (sSeq (sSet 2 (dBin pIx (dIxM 0 (dC (.int 0))) (dIxM 0 (dC (.int 1)))))
    (sSeq (sPut 0 (dBin pAdd (dIxM 0 (dC (.int 1))) (dC (.int 1))) (dC (.int 1)))
    (sIf (dAsB (dBin pGe (dVar 2) (dBin pPow (dC (.int 10)) (dC (.int 18))))) (sPut 0 (dVar 2) (dC (.int 2))) (sPut 0 (dBin pMod (dFun fIntA (dCons (dBin pAdd (dBin pAdd (dBin pMul (dIxM 0 (dC (.int 3))) (dC (.int 48271))) (dBin pMul (dVar 2) (dC (.int 69621)))) (dC (.int 11))) dNil)) (dC (.int 2147483647))) (dC (.int 3)))))) (sPut 0 (dBin pMod (dFun fIntA (dCons (dBin pAdd (dBin pMul (dIxM 0 (dC (.int 3))) (dC (.int 48271))) (dC (.int 7))) dNil)) (dC (.int 2147483647))) (dC (.int 3)))) sNil)
    (sSeq (sIf (dAsB (dBin pGt (dIxM 0 (dC (.int 2))) (dC (.int 0)))) (sSeq (sSet 3 (dBin pMod (dFun fIntA (dCons (dIxM 0 (dC (.int 2))) dNil)) (dVar 1)))
    (sSeq (sPut 0 (dBin pDiv (dIxM 0 (dC (.int 2))) (dVar 1)) (dC (.int 2)))
    (sRet (dVar 3)))) sNil)
    (sRet (dBin pMod (dBin pMod (dFun fIntA (dCons (dBin pMul (dIxM 0 (dC (.int 3))) (dC (.int 16807))) dNil)) (dC (.int 2147483629))) (dVar 1)))))
def d_l_plain (E : Env) : DS :=
  (sSeq (sSet 1 (dLst (dCons (dC (.str "rows")) (dCons (dC (.str "rows_up")) (dCons (dC (.str "cols")) (dCons (dC (.str "cols_back")) (dCons (dC (.str "border")) (dCons (dC (.str "high")) (dCons (dC (.str "wide")) (dCons (dC (.str "rows")) (dCons (dC (.str "cols")) (dCons (dC (.str "all")) dNil))))))))))))
    (sSeq (sSet 2 (dBin pIx (dVar 1) (dCallI 0 E.i_l_draw (dCons (dC (.int 10)) dNil))))
    (sSeq (sSet 3 (dCallI 0 E.i_l_draw (dCons (dC (.int 3)) dNil)))
    (sSeq (sIf (dAsB (dBin pEq (dVar 2) (dC (.str "all")))) (sRet (dTup (dCons (dBin pIx (dLst (dCons (dC (.str "all")) (dCons (dC (.str "none")) dNil))) (dCallI 0 E.i_l_draw (dCons (dC (.int 2)) dNil))) dNil))) sNil)
    (sSeq (sIf (dAsB (dBin pIn (dVar 2) (dLst (dCons (dC (.str "border")) (dCons (dC (.str "high")) (dCons (dC (.str "wide")) dNil)))))) (sRet (dTup (dCons (dVar 2) (dCons (dVar 3) dNil)))) sNil)
    (sRet (dTup (dCons (dVar 2) (dCons (dVar 3) (dCons (dBin pIx (dLst (dCons (dC (.int 0)) (dCons (dC (.int 1)) (dCons (dC (.int 2)) (dCons (dC (.int 2)) (dCons (dC (.int 3)) dNil)))))) (dCallI 0 E.i_l_draw (dCons (dC (.int 5)) dNil))) dNil))))))))))
def d_l_region (E : Env) : DS :=
  (sSeq (sSet 2 (dBin pIx (dLst (dCons (dC (.str "and")) (dCons (dC (.str "or")) (dCons (dC (.str "not")) (dCons (dC (.str "move")) (dCons (dC (.str "mirror")) (dCons (dC (.str "flip")) (dCons (dC (.str "turn")) (dCons (dC (.str "plain")) dNil))))))))) (dCallI 0 E.i_l_draw (dCons (dC (.int 8)) dNil))))
    (sSeq (sIf (dOr (dAsB (dBin pLe (dVar 1) (dC (.int 1)))) (dAsB (dBin pEq (dVar 2) (dC (.str "plain"))))) (sRet (dCallI 0 E.i_l_plain dNil)) sNil)
    (sSeq (sSet 3 (dCallI 0 E.i_l_region (dCons (dBin pSub (dVar 1) (dC (.int 1))) dNil)))
    (sSeq (sIf (dAsB (dBin pIn (dVar 2) (dLst (dCons (dC (.str "and")) (dCons (dC (.str "or")) dNil))))) (sRet (dTup (dCons (dVar 2) (dCons (dVar 3) (dCons (dCallI 0 E.i_l_region (dCons (dBin pSub (dVar 1) (dC (.int 1))) dNil)) dNil))))) sNil)
    (sSeq (sIf (dAsB (dBin pEq (dVar 2) (dC (.str "move")))) (sRet (dTup (dCons (dVar 2) (dCons (dBin pSub (dCallI 0 E.i_l_draw (dCons (dC (.int 4)) dNil)) (dC (.int 1))) (dCons (dBin pSub (dCallI 0 E.i_l_draw (dCons (dC (.int 4)) dNil)) (dC (.int 2))) (dCons (dVar 3) dNil)))))) sNil)
    (sRet (dTup (dCons (dVar 2) (dCons (dVar 3) dNil)))))))))
def d_l_row (E : Env) : DS :=
  (sSeq (sIf (dAsB (dBin pEq (dVar 2) (dC (.int 0)))) (sRet (dBin pEq (dVar 0) (dVar 1))) sNil)
    (sRet (dAndV (dBin pGe (dVar 0) (dVar 1)) (dBin pEq (dBin pMod (dBin pSub (dVar 0) (dVar 1)) (dVar 2)) (dC (.int 0))))))
def d_l_has (E : Env) : DS :=
  (sSeq (sSet 5 (dBin pIx (dVar 0) (dC (.int 0))))
    (sSeq (sIf (dAsB (dBin pIn (dVar 5) (dLst (dCons (dC (.str "all")) (dCons (dC (.str "none")) dNil))))) (sRet (dBin pEq (dVar 5) (dC (.str "all")))) sNil)
    (sSeq (sIf (dAsB (dBin pEq (dVar 5) (dC (.str "high")))) (sRet (dBin pGe (dVar 1) (dBin pIx (dVar 0) (dC (.int 1))))) sNil)
    (sSeq (sIf (dAsB (dBin pEq (dVar 5) (dC (.str "wide")))) (sRet (dBin pGe (dVar 2) (dBin pIx (dVar 0) (dC (.int 1))))) sNil)
    (sSeq (sIf (dAsB (dBin pEq (dVar 5) (dC (.str "border")))) (sRet (dOrV (dBin pLt (dVar 3) (dBin pIx (dVar 0) (dC (.int 1)))) (dOrV (dBin pLt (dVar 4) (dBin pIx (dVar 0) (dC (.int 1)))) (dOrV (dBin pLe (dBin pSub (dVar 1) (dVar 3)) (dBin pIx (dVar 0) (dC (.int 1)))) (dBin pLe (dBin pSub (dVar 2) (dVar 4)) (dBin pIx (dVar 0) (dC (.int 1)))))))) sNil)
    (sSeq (sIf (dAsB (dBin pEq (dVar 5) (dC (.str "rows")))) (sRet (dCall E.p_l_row (dCons (dVar 3) (dCons (dBin pIx (dVar 0) (dC (.int 1))) (dCons (dBin pIx (dVar 0) (dC (.int 2))) dNil))))) sNil)
    (sSeq (sIf (dAsB (dBin pEq (dVar 5) (dC (.str "rows_up")))) (sRet (dCall E.p_l_row (dCons (dBin pSub (dBin pSub (dVar 1) (dC (.int 1))) (dVar 3)) (dCons (dBin pIx (dVar 0) (dC (.int 1))) (dCons (dBin pIx (dVar 0) (dC (.int 2))) dNil))))) sNil)
    (sSeq (sIf (dAsB (dBin pEq (dVar 5) (dC (.str "cols")))) (sRet (dCall E.p_l_row (dCons (dVar 4) (dCons (dBin pIx (dVar 0) (dC (.int 1))) (dCons (dBin pIx (dVar 0) (dC (.int 2))) dNil))))) sNil)
    (sSeq (sIf (dAsB (dBin pEq (dVar 5) (dC (.str "cols_back")))) (sRet (dCall E.p_l_row (dCons (dBin pSub (dBin pSub (dVar 2) (dC (.int 1))) (dVar 4)) (dCons (dBin pIx (dVar 0) (dC (.int 1))) (dCons (dBin pIx (dVar 0) (dC (.int 2))) dNil))))) sNil)
    (sSeq (sIf (dAsB (dBin pEq (dVar 5) (dC (.str "turn")))) (sRet (dCall E.p_l_has (dCons (dBin pIx (dVar 0) (dC (.int 1))) (dCons (dVar 2) (dCons (dVar 1) (dCons (dVar 4) (dCons (dVar 3) dNil))))))) sNil)
    (sSeq (sIf (dAsB (dBin pEq (dVar 5) (dC (.str "mirror")))) (sRet (dCall E.p_l_has (dCons (dBin pIx (dVar 0) (dC (.int 1))) (dCons (dVar 1) (dCons (dVar 2) (dCons (dBin pSub (dBin pSub (dVar 1) (dC (.int 1))) (dVar 3)) (dCons (dVar 4) dNil))))))) sNil)
    (sSeq (sIf (dAsB (dBin pEq (dVar 5) (dC (.str "flip")))) (sRet (dCall E.p_l_has (dCons (dBin pIx (dVar 0) (dC (.int 1))) (dCons (dVar 1) (dCons (dVar 2) (dCons (dVar 3) (dCons (dBin pSub (dBin pSub (dVar 2) (dC (.int 1))) (dVar 4)) dNil))))))) sNil)
    (sSeq (sIf (dAsB (dBin pEq (dVar 5) (dC (.str "move")))) (sSeq (sSet 3 (dBin pSub (dVar 3) (dBin pIx (dVar 0) (dC (.int 1)))))
    (sSeq (sSet 4 (dBin pSub (dVar 4) (dBin pIx (dVar 0) (dC (.int 2)))))
    (sRet (dAndV (dChain pLe pLt (dC (.int 0)) (dVar 3) (dVar 1)) (dAndV (dChain pLe pLt (dC (.int 0)) (dVar 4) (dVar 2)) (dCall E.p_l_has (dCons (dBin pIx (dVar 0) (dC (.int 3))) (dCons (dVar 1) (dCons (dVar 2) (dCons (dVar 3) (dCons (dVar 4) dNil))))))))))) sNil)
    (sSeq (sIf (dAsB (dBin pEq (dVar 5) (dC (.str "not")))) (sRet (dNotV (dCall E.p_l_has (dCons (dBin pIx (dVar 0) (dC (.int 1))) (dCons (dVar 1) (dCons (dVar 2) (dCons (dVar 3) (dCons (dVar 4) dNil)))))))) sNil)
    (sSeq (sSet 6 (dCall E.p_l_has (dCons (dBin pIx (dVar 0) (dC (.int 1))) (dCons (dVar 1) (dCons (dVar 2) (dCons (dVar 3) (dCons (dVar 4) dNil)))))))
    (sSeq (sIf (dAsB (dBin pEq (dVar 5) (dC (.str "and")))) (sRet (dAndV (dVar 6) (dCall E.p_l_has (dCons (dBin pIx (dVar 0) (dC (.int 2))) (dCons (dVar 1) (dCons (dVar 2) (dCons (dVar 3) (dCons (dVar 4) dNil)))))))) sNil)
    (sRet (dOrV (dVar 6) (dCall E.p_l_has (dCons (dBin pIx (dVar 0) (dC (.int 2))) (dCons (dVar 1) (dCons (dVar 2) (dCons (dVar 3) (dCons (dVar 4) dNil))))))))))))))))))))))))
@[reducible] def c_l_cells_0 (E : Env) : DE :=
  (dTup (dCons (dVar 4) (dCons (dVar 5) dNil)))
@[reducible] def t_l_cells_1 (E : Env) : DD Bool :=
  (dTru (dCall E.p_l_has (dCons (dVar 0) (dCons (dVar 1) (dCons (dVar 2) (dCons (dVar 4) (dCons (dVar 5) dNil)))))))
@[reducible] def b_l_cells_2 (E : Env) : DS :=
  (sSet 3 (dBin pAdd (dVar 3) (dComp [5] (.one 5) (dRange1 (dCons (dVar 2) dNil)) (t_l_cells_1 E) (c_l_cells_0 E))))
def d_l_cells (E : Env) : DS :=
  (sSeq (sSet 3 (dLst dNil))
    (sSeq (sFor (.one 4) (dRange1 (dCons (dVar 1) dNil)) (b_l_cells_2 E))
    (sRet (dVar 3))))
@[reducible] def b_l_picture_0 (E : Env) : DS :=
  (sApp' 2 (dTup (dCons (dBin pIx (dLst (dCons (dC (.str "red")) (dCons (dC (.str "blue")) (dCons (dC (.str "gold")) dNil)))) (dCallI 0 E.i_l_draw (dCons (dC (.int 3)) dNil))) (dCons (dCallI 0 E.i_l_region (dCons (dC (.int 2)) dNil)) dNil))))
def d_l_picture (E : Env) : DS :=
  (sSeq (sNewL 2 dNil)
    (sSeq (sFor (.one 3) (dRange1 (dCons (dVar 1) dNil)) (b_l_picture_0 E))
    (sRet (dFun fTuple (dCons (dRd 2) dNil)))))
@[reducible] def b_l_colour_0 (E : Env) : DS :=
  (sIf (dTru (dCall E.p_l_has (dCons (dVar 7) (dCons (dVar 1) (dCons (dVar 2) (dCons (dVar 3) (dCons (dVar 4) dNil))))))) (sSet 5 (dVar 6)) sNil)
def d_l_colour (E : Env) : DS :=
  (sSeq (sSet 5 (dC .non))
    (sSeq (sFor (.tup [6, 7]) (dItems (dVar 0)) (b_l_colour_0 E))
    (sRet (dVar 5))))
@[reducible] def c_l_like_0 (E : Env) : DE :=
  (dCall E.p_l_like (dCons (dBin pIx (dVar 0) (dVar 3)) (dCons (dBin pIx (dVar 1) (dVar 3)) dNil)))
@[reducible] def b_l_like_1 (E : Env) : DS :=
  (sIf (dNot (dTru (dCall E.p_l_like (dCons (dBin pIx (dVar 0) (dVar 2)) (dCons (dBin pIx (dVar 1) (dVar 2)) dNil))))) (sRet (dC (.bl false))) sNil)
def d_l_like (E : Env) : DS :=
  (sSeq (sIf (dTru (dIsi "dict" (dVar 1))) (sSeq (sIf (dOr (dNot (dTru (dIsi "dict" (dVar 0)))) (dAsB (dBin pNe (dFun fList (dCons (dVar 0) dNil)) (dFun fList (dCons (dVar 1) dNil))))) (sRet (dC (.bl false))) sNil)
    (sRet (dFun fAll (dCons (dComp [3] (.one 3) (dItems (dVar 1)) tyesD (c_l_like_0 E)) dNil)))) sNil)
    (sSeq (sIf (dAsB (dBin pIsN (dVar 1) (dC .non))) (sRet (dBin pIsN (dVar 0) (dC .non))) sNil)
    (sSeq (sIf (dTru (dIsi "bool" (dVar 1))) (sRet (dAndV (dIsi "bool" (dVar 0)) (dBin pEq (dVar 0) (dVar 1)))) sNil)
    (sSeq (sIf (dTru (dIsi "int" (dVar 1))) (sRet (dAndV (dIsi "int" (dVar 0)) (dAndV (dNotV (dIsi "bool" (dVar 0))) (dBin pEq (dVar 0) (dVar 1))))) sNil)
    (sSeq (sIf (dTru (dIsi "str" (dVar 1))) (sRet (dAndV (dIsi "str" (dVar 0)) (dBin pEq (dVar 0) (dVar 1)))) sNil)
    (sSeq (sIf (dTru (dIsi "tuple" (dVar 1))) (sIf (dOr (dNot (dTru (dIsi "tuple" (dVar 0)))) (dAsB (dBin pNe (dFun fLen (dCons (dVar 0) dNil)) (dFun fLen (dCons (dVar 1) dNil))))) (sRet (dC (.bl false))) sNil) (sIf (dOr (dNot (dTru (dIsi "list" (dVar 0)))) (dAsB (dBin pNe (dFun fLen (dCons (dVar 0) dNil)) (dFun fLen (dCons (dVar 1) dNil))))) (sRet (dC (.bl false))) sNil))
    (sSeq (sFor (.one 2) (dRange1 (dCons (dFun fLen (dCons (dVar 1) dNil)) dNil)) (b_l_like_1 E))
    (sRet (dC (.bl true))))))))))
@[reducible] def c_l_text_0 (E : Env) : DE :=
  (dVar 5)
@[reducible] def t_l_text_1 (E : Env) : DD Bool :=
  (dTru (dIsi "tuple" (dVar 5)))
@[reducible] def c_l_text_2 (E : Env) : DE :=
  (dCall E.p_l_text (dCons (dVar 5) dNil))
@[reducible] def c_l_text_3 (E : Env) : DE :=
  (dFun fStr (dCons (dVar 6) dNil))
def d_l_text (E : Env) : DS :=
  (sSeq (sIf (dAsB (dBin pEq (dBin pIx (dVar 0) (dC (.int 0))) (dC (.str "move")))) (sSeq (sSet 1 (dBin pAdd (dBin pAdd (dBin pAdd (dC (.str "move(")) (dFun fStr (dCons (dBin pIx (dVar 0) (dC (.int 1))) dNil))) (dC (.str " "))) (dFun fStr (dCons (dBin pIx (dVar 0) (dC (.int 2))) dNil))))
    (sRet (dBin pAdd (dBin pAdd (dBin pAdd (dVar 1) (dC (.str ", "))) (dCall E.p_l_text (dCons (dBin pIx (dVar 0) (dC (.int 3))) dNil))) (dC (.str ")"))))) sNil)
    (sSeq (sSet 2 (dComp [5] (.one 5) (dItems (dSl (dVar 0) (some (dC (.int 1))) none)) (t_l_text_1 E) (c_l_text_0 E)))
    (sSeq (sSet 3 (dComp [5] (.one 5) (dItems (dVar 2)) tyesD (c_l_text_2 E)))
    (sSeq (sIf (dAsB (dBin pGt (dFun fLen (dCons (dVar 3) dNil)) (dC (.int 0)))) (sRet (dBin pAdd (dBin pAdd (dBin pAdd (dBin pIx (dVar 0) (dC (.int 0))) (dC (.str "("))) (dBinS pJoin (dC (.str ", ")) (dVar 3))) (dC (.str ")")))) sNil)
    (sSeq (sSet 4 (dComp [6] (.one 6) (dItems (dSl (dVar 0) (some (dC (.int 1))) none)) tyesD (c_l_text_3 E)))
    (sRet (dBinS pJoin (dC (.str " ")) (dBin pAdd (dLst (dCons (dBin pIx (dVar 0) (dC (.int 0))) dNil)) (dVar 4)))))))))
@[reducible] def c_law_k09_0 (E : Env) : DE :=
  (dBin pAdd (dBin pAdd (dVar 12) (dC (.str " "))) (dCall E.p_l_text (dCons (dVar 13) dNil)))
@[reducible] def s0_law_k09 (E : Env) : DS :=
  (sCallO 1 E.o_l_begin (dCons (dVar 0) dNil))
@[reducible] def s1_law_k09 (E : Env) : DS :=
  (sSet 2 (dCallI 1 E.i_l_region (dCons (dC (.int 4)) dNil)))
@[reducible] def s2_law_k09 (E : Env) : DS :=
  (sSet 3 (dCall E.p_l_text (dCons (dVar 2) dNil)))
@[reducible] def s3_law_k09 (E : Env) : DS :=
  (sIf (dOr (dAsB (dBin pNe (dCall E.p_write (dCons (dVar 2) dNil)) (dVar 3))) (dNot (dTru (dCall E.p_l_like (dCons (dCall E.p_read (dCons (dVar 3) dNil)) (dCons (dVar 2) dNil)))))) (sRet (dC (.bl false))) sNil)
@[reducible] def s4_law_k09 (E : Env) : DS :=
  (sSet 4 (dCallI 1 E.i_l_picture (dCons (dCallI 1 E.i_l_draw (dCons (dC (.int 5)) dNil)) dNil)))
@[reducible] def s5_law_k09 (E : Env) : DS :=
  (sSet 5 (dComp [12, 13] (.tup [12, 13]) (dItems (dVar 4)) tyesD (c_law_k09_0 E)))
@[reducible] def s6_law_k09 (E : Env) : DS :=
  (sSet 6 (dBinS pJoin (dC (.str "\n")) (dVar 5)))
@[reducible] def s7_law_k09 (E : Env) : DS :=
  (sIf (dOr (dAsB (dBin pNe (dCall E.p_write_picture (dCons (dVar 4) dNil)) (dVar 6))) (dNot (dTru (dCall E.p_l_like (dCons (dCall E.p_read_picture (dCons (dVar 6) dNil)) (dCons (dVar 4) dNil)))))) (sRet (dC (.bl false))) sNil)
@[reducible] def s8_law_k09 (E : Env) : DS :=
  (sSet 7 (dBin pIx (dLst (dCons (dC (.str "spot")) (dCons (dC (.str "x")) (dCons (dC (.str "red")) dNil)))) (dCallI 1 E.i_l_draw (dCons (dC (.int 3)) dNil))))
@[reducible] def s9_law_k09 (E : Env) : DS :=
  (sSet 8 (dBin pAdd (dBin pAdd (dC (.str "let ")) (dVar 7)) (dC (.str " = "))))
@[reducible] def s10_law_k09 (E : Env) : DS :=
  (sSet 9 (dLst (dCons (dBin pAdd (dVar 8) (dCall E.p_l_text (dCons (dVar 2) dNil))) (dCons (dBin pAdd (dC (.str "red ")) (dVar 7)) (dCons (dBin pAdd (dBin pAdd (dC (.str "blue not(")) (dVar 7)) (dC (.str ")"))) dNil)))))
@[reducible] def s11_law_k09 (E : Env) : DS :=
  (sSet 9 (dBin pAdd (dVar 9) (dLst (dCons (dBin pAdd (dBin pAdd (dBin pAdd (dVar 8) (dC (.str "or("))) (dVar 7)) (dC (.str ", rows 0 1)"))) (dCons (dBin pAdd (dBin pAdd (dC (.str "gold move(1 -1, ")) (dVar 7)) (dC (.str ")"))) dNil)))))
@[reducible] def s12_law_k09 (E : Env) : DS :=
  (sSet 10 (dTup (dCons (dC (.str "or")) (dCons (dVar 2) (dCons (dTup (dCons (dC (.str "rows")) (dCons (dC (.int 0)) (dCons (dC (.int 1)) dNil)))) dNil)))))
@[reducible] def s13_law_k09 (E : Env) : DS :=
  (sSet 11 (dTup (dCons (dTup (dCons (dC (.str "red")) (dCons (dVar 2) dNil))) (dCons (dTup (dCons (dC (.str "blue")) (dCons (dTup (dCons (dC (.str "not")) (dCons (dVar 2) dNil))) dNil))) (dCons (dTup (dCons (dC (.str "gold")) (dCons (dTup (dCons (dC (.str "move")) (dCons (dC (.int 1)) (dCons (dUn pNeg (dC (.int 1))) (dCons (dVar 10) dNil))))) dNil))) dNil)))))
@[reducible] def s14_law_k09 (E : Env) : DS :=
  (sRet (dCall E.p_l_like (dCons (dCall E.p_read_picture (dCons (dBinS pJoin (dC (.str "\n")) (dVar 9)) dNil)) (dCons (dVar 11) dNil))))
@[reducible] def r14_law_k09 (E : Env) : DS :=
  (s14_law_k09 E)
@[reducible] def r13_law_k09 (E : Env) : DS :=
  (sSeq (s13_law_k09 E) (r14_law_k09 E))
@[reducible] def r12_law_k09 (E : Env) : DS :=
  (sSeq (s12_law_k09 E) (r13_law_k09 E))
@[reducible] def r11_law_k09 (E : Env) : DS :=
  (sSeq (s11_law_k09 E) (r12_law_k09 E))
@[reducible] def r10_law_k09 (E : Env) : DS :=
  (sSeq (s10_law_k09 E) (r11_law_k09 E))
@[reducible] def r9_law_k09 (E : Env) : DS :=
  (sSeq (s9_law_k09 E) (r10_law_k09 E))
@[reducible] def r8_law_k09 (E : Env) : DS :=
  (sSeq (s8_law_k09 E) (r9_law_k09 E))
@[reducible] def r7_law_k09 (E : Env) : DS :=
  (sSeq (s7_law_k09 E) (r8_law_k09 E))
@[reducible] def r6_law_k09 (E : Env) : DS :=
  (sSeq (s6_law_k09 E) (r7_law_k09 E))
@[reducible] def r5_law_k09 (E : Env) : DS :=
  (sSeq (s5_law_k09 E) (r6_law_k09 E))
@[reducible] def r4_law_k09 (E : Env) : DS :=
  (sSeq (s4_law_k09 E) (r5_law_k09 E))
@[reducible] def r3_law_k09 (E : Env) : DS :=
  (sSeq (s3_law_k09 E) (r4_law_k09 E))
@[reducible] def r2_law_k09 (E : Env) : DS :=
  (sSeq (s2_law_k09 E) (r3_law_k09 E))
@[reducible] def r1_law_k09 (E : Env) : DS :=
  (sSeq (s1_law_k09 E) (r2_law_k09 E))
@[reducible] def r0_law_k09 (E : Env) : DS :=
  (sSeq (s0_law_k09 E) (r1_law_k09 E))
def d_law_k09 (E : Env) : DS :=
  (r0_law_k09 E)
def Env.next (E : Env) : Env where
  p_is_whole := runB 3 (d_is_whole E)
  p_are_numbers := runB 4 (d_are_numbers E)
  p_is_nested := runB 3 (d_is_nested E)
  p_is_region := runB 1 (d_is_region E)
  p_check_region := runB 1 (d_check_region E)
  p_inner_regions := runB 1 (d_inner_regions E)
  p_is_colour := runB 2 (d_is_colour E)
  p_is_paint := runB 1 (d_is_paint E)
  p_is_picture := runB 2 (d_is_picture E)
  p_check_picture := runB 1 (d_check_picture E)
  p_text_of := runB 4 (d_text_of E)
  p_write := runB 1 (d_write E)
  p_number_of := runB 2 (d_number_of E)
  p_numbers_of := runB 3 (d_numbers_of E)
  p_cut := runB 5 (d_cut E)
  p_plain_in := runB 4 (d_plain_in E)
  p_moved_in := runB 4 (d_moved_in E)
  p_region_in := runB 6 (d_region_in E)
  p_brackets := runB 4 (d_brackets E)
  p_good_region := runB 3 (d_good_region E)
  p_read := runB 2 (d_read E)
  p_write_picture := runB 3 (d_write_picture E)
  p_head_and_region := runB 5 (d_head_and_region E)
  p_is_name := runB 1 (d_is_name E)
  p_read_picture := runB 8 (d_read_picture E)
  o_l_begin := runO 1 (d_l_begin E)
  i_l_draw := runI 4 (d_l_draw E)
  i_l_plain := runI 4 (d_l_plain E)
  i_l_region := runI 4 (d_l_region E)
  p_l_row := runB 3 (d_l_row E)
  p_l_has := runB 7 (d_l_has E)
  p_l_cells := runB 6 (d_l_cells E)
  i_l_picture := runI 4 (d_l_picture E)
  p_l_colour := runB 8 (d_l_colour E)
  p_l_like := runB 4 (d_l_like E)
  p_l_text := runB 7 (d_l_text E)
  p_law_k09 := runB 14 (d_law_k09 E)
def Env.zero : Env where
  p_is_whole := fun _ => .stuck
  p_are_numbers := fun _ => .stuck
  p_is_nested := fun _ => .stuck
  p_is_region := fun _ => .stuck
  p_check_region := fun _ => .stuck
  p_inner_regions := fun _ => .stuck
  p_is_colour := fun _ => .stuck
  p_is_paint := fun _ => .stuck
  p_is_picture := fun _ => .stuck
  p_check_picture := fun _ => .stuck
  p_text_of := fun _ => .stuck
  p_write := fun _ => .stuck
  p_number_of := fun _ => .stuck
  p_numbers_of := fun _ => .stuck
  p_cut := fun _ => .stuck
  p_plain_in := fun _ => .stuck
  p_moved_in := fun _ => .stuck
  p_region_in := fun _ => .stuck
  p_brackets := fun _ => .stuck
  p_good_region := fun _ => .stuck
  p_read := fun _ => .stuck
  p_write_picture := fun _ => .stuck
  p_head_and_region := fun _ => .stuck
  p_is_name := fun _ => .stuck
  p_read_picture := fun _ => .stuck
  o_l_begin := fun _ => none
  i_l_draw := fun _ _ => .stuck
  i_l_plain := fun _ _ => .stuck
  i_l_region := fun _ _ => .stuck
  p_l_row := fun _ => .stuck
  p_l_has := fun _ => .stuck
  p_l_cells := fun _ => .stuck
  i_l_picture := fun _ _ => .stuck
  p_l_colour := fun _ => .stuck
  p_l_like := fun _ => .stuck
  p_l_text := fun _ => .stuck
  p_law_k09 := fun _ => .stuck
def env : Nat → Env
  | 0 => .zero
  | n + 1 => (env n).next
end Pl

set_option maxHeartbeats 4000000
/-! printed by gen.py: the defs of law k09 mean what D0 says. -/
namespace Pl
open PySem PySem.Spec PyProof.Rows L2 RZ

def top (i : Nat) : Stmt := PySem.Challenge.pw_anysheet_k09_texts_there_and_back.main.body.getD i (.Pass ⟨0, 0, 0, 0⟩)
def mth (s : Stmt) (j : Nat) : Stmt := match s with
  | .ClassDef _ _ _ b _ _ _ _ _ _ _ => b.getD j (.Pass ⟨0, 0, 0, 0⟩)
  | _ => .Pass ⟨0, 0, 0, 0⟩
def dfs : List He.DefD := [⟨("is_whole", none), "is_whole", "is_whole", defArgs (top 11), defBody (top 11), defScope (top 11), [], []⟩,
  ⟨("are_numbers", none), "are_numbers", "are_numbers", defArgs (top 12), defBody (top 12), defScope (top 12), [], []⟩,
  ⟨("is_nested", none), "is_nested", "is_nested", defArgs (top 13), defBody (top 13), defScope (top 13), [], []⟩,
  ⟨("is_region", none), "is_region", "is_region", defArgs (top 14), defBody (top 14), defScope (top 14), [], []⟩,
  ⟨("check_region", none), "check_region", "check_region", defArgs (top 15), defBody (top 15), defScope (top 15), [], []⟩,
  ⟨("inner_regions", none), "inner_regions", "inner_regions", defArgs (top 16), defBody (top 16), defScope (top 16), [], []⟩,
  ⟨("is_colour", none), "is_colour", "is_colour", defArgs (top 20), defBody (top 20), defScope (top 20), [], []⟩,
  ⟨("is_paint", none), "is_paint", "is_paint", defArgs (top 21), defBody (top 21), defScope (top 21), [], []⟩,
  ⟨("is_picture", none), "is_picture", "is_picture", defArgs (top 22), defBody (top 22), defScope (top 22), [], []⟩,
  ⟨("check_picture", none), "check_picture", "check_picture", defArgs (top 23), defBody (top 23), defScope (top 23), [], []⟩,
  ⟨("text_of", none), "text_of", "text_of", defArgs (top 26), defBody (top 26), defScope (top 26), [], []⟩,
  ⟨("write", none), "write", "write", defArgs (top 27), defBody (top 27), defScope (top 27), [], []⟩,
  ⟨("number_of", none), "number_of", "number_of", defArgs (top 28), defBody (top 28), defScope (top 28), [], []⟩,
  ⟨("numbers_of", none), "numbers_of", "numbers_of", defArgs (top 29), defBody (top 29), defScope (top 29), [], []⟩,
  ⟨("cut", none), "cut", "cut", defArgs (top 30), defBody (top 30), defScope (top 30), [], []⟩,
  ⟨("plain_in", none), "plain_in", "plain_in", defArgs (top 31), defBody (top 31), defScope (top 31), [], []⟩,
  ⟨("moved_in", none), "moved_in", "moved_in", defArgs (top 32), defBody (top 32), defScope (top 32), [], []⟩,
  ⟨("region_in", none), "region_in", "region_in", defArgs (top 33), defBody (top 33), defScope (top 33), [], []⟩,
  ⟨("brackets", none), "brackets", "brackets", defArgs (top 34), defBody (top 34), defScope (top 34), [], []⟩,
  ⟨("good_region", none), "good_region", "good_region", defArgs (top 35), defBody (top 35), defScope (top 35), [], []⟩,
  ⟨("read", none), "read", "read", defArgs (top 36), defBody (top 36), defScope (top 36), [], []⟩,
  ⟨("write_picture", none), "write_picture", "write_picture", defArgs (top 37), defBody (top 37), defScope (top 37), [], []⟩,
  ⟨("head_and_region", none), "head_and_region", "head_and_region", defArgs (top 38), defBody (top 38), defScope (top 38), [], []⟩,
  ⟨("is_name", none), "is_name", "is_name", defArgs (top 39), defBody (top 39), defScope (top 39), [], []⟩,
  ⟨("read_picture", none), "read_picture", "read_picture", defArgs (top 40), defBody (top 40), defScope (top 40), [], []⟩,
  ⟨("_law_begin", none), "_law_begin", "_law_begin", defArgs (top 42), defBody (top 42), defScope (top 42), [], []⟩,
  ⟨("_law_draw", none), "_law_draw", "_law_draw", defArgs (top 43), defBody (top 43), defScope (top 43), [], []⟩,
  ⟨("_law_plain", none), "_law_plain", "_law_plain", defArgs (top 44), defBody (top 44), defScope (top 44), [], []⟩,
  ⟨("_law_region", none), "_law_region", "_law_region", defArgs (top 45), defBody (top 45), defScope (top 45), [], []⟩,
  ⟨("_law_row", none), "_law_row", "_law_row", defArgs (top 46), defBody (top 46), defScope (top 46), [], []⟩,
  ⟨("_law_has", none), "_law_has", "_law_has", defArgs (top 47), defBody (top 47), defScope (top 47), [], []⟩,
  ⟨("_law_cells", none), "_law_cells", "_law_cells", defArgs (top 48), defBody (top 48), defScope (top 48), [], []⟩,
  ⟨("_law_picture", none), "_law_picture", "_law_picture", defArgs (top 49), defBody (top 49), defScope (top 49), [], []⟩,
  ⟨("_law_colour", none), "_law_colour", "_law_colour", defArgs (top 50), defBody (top 50), defScope (top 50), [], []⟩,
  ⟨("_law_like", none), "_law_like", "_law_like", defArgs (top 51), defBody (top 51), defScope (top 51), [], []⟩,
  ⟨("_law_text", none), "_law_text", "_law_text", defArgs (top 52), defBody (top 52), defScope (top 52), [], []⟩,
  ⟨("law", none), "law", "law", defArgs (top 53), defBody (top 53), defScope (top 53), [], []⟩,
  ⟨("BadLine", some "__init__"), "__init__", "BadLine.__init__", defArgs (mth (top 5) 0), defBody (mth (top 5) 0), defScope (mth (top 5) 0), [], []⟩]
def fcs : List He.Fa := [.glo "is_whole", .glo "are_numbers", .glo "is_nested", .glo "is_region", .glo "check_region", .glo "inner_regions", .glo "is_colour", .glo "is_paint", .glo "is_picture", .glo "check_picture", .glo "text_of", .glo "write", .glo "number_of", .glo "numbers_of", .glo "cut", .glo "plain_in", .glo "moved_in", .glo "region_in", .glo "brackets", .glo "good_region", .glo "read", .glo "write_picture", .glo "head_and_region", .glo "is_name", .glo "read_picture", .glo "_law_begin", .glo "_law_draw", .glo "_law_plain", .glo "_law_region", .glo "_law_row", .glo "_law_has", .glo "_law_cells", .glo "_law_picture", .glo "_law_colour", .glo "_law_like", .glo "_law_text", .glo "law", .free "all", .free "bool", .free "dict", .free "enumerate", .free "int", .free "isinstance", .free "len", .free "list", .free "max", .free "range", .free "str", .free "tuple", .free "zip", .str "FIGURES" "0123456789", .glo "INNER", .int "MOST_DEEP" 8, .int "MOST_PAINTS" 6, .glo "PLAIN", .str "SMALL" "abcdefghijklmnopqrstuvwxyz", .glo "WORDS", .exc "SheetError", .exc "BadRegion", .exc "BadPicture", .exc "BadText", .glo "SheetError", .glo "BadRegion", .glo "BadPicture", .glo "BadText", .glo "BadLine", .exm "SheetError" "SheetError" true, .exm "SheetError" "BadRegion" false, .exm "SheetError" "BadPicture" false, .exm "SheetError" "BadText" false, .exm "SheetError" "BadLine" false, .exm "BadRegion" "SheetError" true, .exm "BadRegion" "BadRegion" true, .exm "BadRegion" "BadPicture" false, .exm "BadRegion" "BadText" false, .exm "BadRegion" "BadLine" false, .exm "BadPicture" "SheetError" true, .exm "BadPicture" "BadRegion" false, .exm "BadPicture" "BadPicture" true, .exm "BadPicture" "BadText" false, .exm "BadPicture" "BadLine" false, .exm "BadText" "SheetError" true, .exm "BadText" "BadRegion" false, .exm "BadText" "BadPicture" false, .exm "BadText" "BadText" true, .exm "BadText" "BadLine" false, .exm "BadLine" "SheetError" true, .exm "BadLine" "BadRegion" false, .exm "BadLine" "BadPicture" false, .exm "BadLine" "BadText" false, .exm "BadLine" "BadLine" true]
def tbs : List He.Tab := [(fun K => He.ga K "INNER", ["and", "or", "not", "mirror", "flip", "turn"]), (fun K => He.ga K "PLAIN", ["all", "none", "high", "wide", "rows", "rows_up", "cols", "cols_back", "border"])]
def exs (K : PySem.W.Frag) : Bool := tabB K (He.ga K "INNER") tb_INNER && (tabB K (He.ga K "PLAIN") tb_PLAIN && (repB K (.tup [(.str "all"), (.str "none"), (.str "high"), (.str "wide"), (.str "rows"), (.str "rows_up"), (.str "cols"), (.str "cols_back"), (.str "border"), (.str "and"), (.str "or"), (.str "not"), (.str "mirror"), (.str "flip"), (.str "turn"), (.str "move")]) (.ref (He.ga K "WORDS")) && (lineB K)))
def clsN : Nat → Str
  | 0 => "SheetError"
  | 1 => "BadRegion"
  | 2 => "BadSheet"
  | 3 => "NoCell"
  | 4 => "BadPicture"
  | 5 => "NothingDone"
  | 6 => "BadText"
  | 7 => "BadLine"
  | 8 => "Counter"
  | 9 => "Region"
  | 10 => "Board"
  | _ => "law"
def clsF : Nat → List Str
  | 7 => ["line"]
  | 8 => ["tree", "rows", "columns", "n", "m", "step", "edge"]
  | 9 => ["region"]
  | 10 => ["n", "m", "paints", "rows"]
  | _ => []
def fx (K : PySem.W.Frag) (w : World) : Fx := ⟨K, w, fun i => He.ga K (clsN i), clsF⟩
structure Txt (K : PySem.W.Frag) (w : World) (mg : Str → Option Value) : Prop where
  sy : He.SaysT fcs dfs tbs w K
  n_all : mg "all" = none
  n_bool : mg "bool" = none
  n_dict : mg "dict" = none
  n_enumerate : mg "enumerate" = none
  n_int : mg "int" = none
  n_isinstance : mg "isinstance" = none
  n_len : mg "len" = none
  n_list : mg "list" = none
  n_max : mg "max" = none
  n_range : mg "range" = none
  n_str : mg "str" = none
  n_tuple : mg "tuple" = none
  n_zip : mg "zip" = none
  g_FIGURES : ∃ t, mg "FIGURES" = some (.str "0123456789" t)
  g_INNER : mg "INNER" = some (.ref (He.ga K "INNER"))
  k_INNER : TabOk (fx K w) (He.ga K "INNER") tb_INNER
  g_MOST_DEEP : ∃ t, mg "MOST_DEEP" = some (.int 8 t)
  g_MOST_PAINTS : ∃ t, mg "MOST_PAINTS" = some (.int 6 t)
  g_PLAIN : mg "PLAIN" = some (.ref (He.ga K "PLAIN"))
  k_PLAIN : TabOk (fx K w) (He.ga K "PLAIN") tb_PLAIN
  g_SMALL : ∃ t, mg "SMALL" = some (.str "abcdefghijklmnopqrstuvwxyz" t)
  g_WORDS : mg "WORDS" = some (.ref (He.ga K "WORDS"))
  r_WORDS : ∀ G, Rep (fx K w) G (.tup [(.str "all"), (.str "none"), (.str "high"), (.str "wide"), (.str "rows"), (.str "rows_up"), (.str "cols"), (.str "cols_back"), (.str "border"), (.str "and"), (.str "or"), (.str "not"), (.str "mirror"), (.str "flip"), (.str "turn"), (.str "move")]) (.ref (He.ga K "WORDS"))
  m_SheetError : mg "SheetError" = some (.ref (He.ga K "SheetError"))
  x_SheetError : PySem.W.excIn K (He.ga K "SheetError") He.veBase "ValueError.__new__" = true ∧ PySem.W.keepIn K (.ref (He.ga K "SheetError")) = true ∧ PySem.W.subIn K (.ref (He.ga K "SheetError")) (.type "BaseException") = some true ∧
    PySem.W.typeIn K (.ref (He.ga K "SheetError")) = some (.type "type")
  m_BadRegion : mg "BadRegion" = some (.ref (He.ga K "BadRegion"))
  x_BadRegion : PySem.W.excIn K (He.ga K "BadRegion") He.veBase "ValueError.__new__" = true ∧ PySem.W.keepIn K (.ref (He.ga K "BadRegion")) = true ∧ PySem.W.subIn K (.ref (He.ga K "BadRegion")) (.type "BaseException") = some true ∧
    PySem.W.typeIn K (.ref (He.ga K "BadRegion")) = some (.type "type")
  m_BadPicture : mg "BadPicture" = some (.ref (He.ga K "BadPicture"))
  x_BadPicture : PySem.W.excIn K (He.ga K "BadPicture") He.veBase "ValueError.__new__" = true ∧ PySem.W.keepIn K (.ref (He.ga K "BadPicture")) = true ∧ PySem.W.subIn K (.ref (He.ga K "BadPicture")) (.type "BaseException") = some true ∧
    PySem.W.typeIn K (.ref (He.ga K "BadPicture")) = some (.type "type")
  m_BadText : mg "BadText" = some (.ref (He.ga K "BadText"))
  x_BadText : PySem.W.excIn K (He.ga K "BadText") He.veBase "ValueError.__new__" = true ∧ PySem.W.keepIn K (.ref (He.ga K "BadText")) = true ∧ PySem.W.subIn K (.ref (He.ga K "BadText")) (.type "BaseException") = some true ∧
    PySem.W.typeIn K (.ref (He.ga K "BadText")) = some (.type "type")
  m_BadLine : mg "BadLine" = some (.ref (He.ga K "BadLine"))
  low : PySem.LowLn.LowTxt K mg (He.ga K "BadLine") (He.ma K (He.ga K "BadLine") "__init__")
  subs : SubOk (fx K w) [0, 1, 4, 6, 7] SUB
section
variable {P : Program} {w : World} {K : PySem.W.Frag} {mg : Str → Option Value} {base : Heap} {h : Heap}
theorem txt_of (X : K.In h) (G : h.Ns mainGlobals mg) (c : He.SaysT fcs dfs tbs w K) (m : exs K = true) : Txt K w mg := by
  have e := m
  unfold exs at e
  simp only [Bool.and_eq_true] at e
  have f := fun (i : Nat) (f : He.Fa) (hf : fcs[i]? = some f) => c.d.fact i (f := f) hf
  refine ⟨c, He.free_ok X G (f 37 (.free "all") rfl), He.free_ok X G (f 38 (.free "bool") rfl), He.free_ok X G (f 39 (.free "dict") rfl), He.free_ok X G (f 40 (.free "enumerate") rfl), He.free_ok X G (f 41 (.free "int") rfl), He.free_ok X G (f 42 (.free "isinstance") rfl), He.free_ok X G (f 43 (.free "len") rfl), He.free_ok X G (f 44 (.free "list") rfl), He.free_ok X G (f 45 (.free "max") rfl), He.free_ok X G (f 46 (.free "range") rfl), He.free_ok X G (f 47 (.free "str") rfl), He.free_ok X G (f 48 (.free "tuple") rfl), He.free_ok X G (f 49 (.free "zip") rfl), He.str_ok X G (f 50 (.str "FIGURES" "0123456789") rfl), He.glo_ok X G (f 51 (.glo "INNER") rfl), ⟨c.tab 0 (t := (fun K => He.ga K "INNER", ["and", "or", "not", "mirror", "flip", "turn"])) rfl, e.1⟩, He.int_ok X G (f 52 (.int "MOST_DEEP" 8) rfl), He.int_ok X G (f 53 (.int "MOST_PAINTS" 6) rfl), He.glo_ok X G (f 54 (.glo "PLAIN") rfl), ⟨c.tab 1 (t := (fun K => He.ga K "PLAIN", ["all", "none", "high", "wide", "rows", "rows_up", "cols", "cols_back", "border"])) rfl, e.2.1⟩, He.str_ok X G (f 55 (.str "SMALL" "abcdefghijklmnopqrstuvwxyz") rfl), He.glo_ok X G (f 56 (.glo "WORDS") rfl), ?r_WORDS, He.glo_ok X G (f 61 (.glo "SheetError") rfl), He.exc_ok (f 57 (.exc "SheetError") rfl), He.glo_ok X G (f 62 (.glo "BadRegion") rfl), He.exc_ok (f 58 (.exc "BadRegion") rfl), He.glo_ok X G (f 63 (.glo "BadPicture") rfl), He.exc_ok (f 59 (.exc "BadPicture") rfl), He.glo_ok X G (f 64 (.glo "BadText") rfl), He.exc_ok (f 60 (.exc "BadText") rfl), He.glo_ok X G (f 65 (.glo "BadLine") rfl), ?low, ?sub⟩
  case r_WORDS =>
    obtain ⟨v, r, g⟩ := repB_ok (F := fx K w) e.2.2.1
    cases (show v = .ref (He.ga K "WORDS") from by cases v <;> first | (cases r; rfl) | (obtain ⟨_, r⟩ := r; cases r) | cases r)
    exact g
  case low =>
    obtain ⟨fd, FD⟩ := c.d.def_ 37 (d := ⟨("BadLine", some "__init__"), "__init__", "BadLine.__init__", defArgs (mth (top 5) 0), defBody (mth (top 5) 0), defScope (mth (top 5) 0), [], []⟩) rfl
    exact low_of (st := mth (top 5) 0) (He.glo_ok X G (f 65 (.glo "BadLine") rfl)) e.2.2.2 FD rfl rfl rfl
  case sub =>
    intro a b ha hb
    have ha : a ∈ ([0, 1, 4, 6, 7] : List Nat) := List.contains_iff_mem.mp ha
    have hb : b ∈ ([0, 1, 4, 6, 7] : List Nat) := List.contains_iff_mem.mp hb
    simp only [List.mem_cons, List.mem_nil_iff, or_false] at ha hb
    rcases ha with rfl | rfl | rfl | rfl | rfl <;> rcases hb with rfl | rfl | rfl | rfl | rfl
    · exact He.exm_ok (f 66 (.exm "SheetError" "SheetError" true) rfl)
    · exact He.exm_ok (f 67 (.exm "SheetError" "BadRegion" false) rfl)
    · exact He.exm_ok (f 68 (.exm "SheetError" "BadPicture" false) rfl)
    · exact He.exm_ok (f 69 (.exm "SheetError" "BadText" false) rfl)
    · exact He.exm_ok (f 70 (.exm "SheetError" "BadLine" false) rfl)
    · exact He.exm_ok (f 71 (.exm "BadRegion" "SheetError" true) rfl)
    · exact He.exm_ok (f 72 (.exm "BadRegion" "BadRegion" true) rfl)
    · exact He.exm_ok (f 73 (.exm "BadRegion" "BadPicture" false) rfl)
    · exact He.exm_ok (f 74 (.exm "BadRegion" "BadText" false) rfl)
    · exact He.exm_ok (f 75 (.exm "BadRegion" "BadLine" false) rfl)
    · exact He.exm_ok (f 76 (.exm "BadPicture" "SheetError" true) rfl)
    · exact He.exm_ok (f 77 (.exm "BadPicture" "BadRegion" false) rfl)
    · exact He.exm_ok (f 78 (.exm "BadPicture" "BadPicture" true) rfl)
    · exact He.exm_ok (f 79 (.exm "BadPicture" "BadText" false) rfl)
    · exact He.exm_ok (f 80 (.exm "BadPicture" "BadLine" false) rfl)
    · exact He.exm_ok (f 81 (.exm "BadText" "SheetError" true) rfl)
    · exact He.exm_ok (f 82 (.exm "BadText" "BadRegion" false) rfl)
    · exact He.exm_ok (f 83 (.exm "BadText" "BadPicture" false) rfl)
    · exact He.exm_ok (f 84 (.exm "BadText" "BadText" true) rfl)
    · exact He.exm_ok (f 85 (.exm "BadText" "BadLine" false) rfl)
    · exact He.exm_ok (f 86 (.exm "BadLine" "SheetError" true) rfl)
    · exact He.exm_ok (f 87 (.exm "BadLine" "BadRegion" false) rfl)
    · exact He.exm_ok (f 88 (.exm "BadLine" "BadPicture" false) rfl)
    · exact He.exm_ok (f 89 (.exm "BadLine" "BadText" false) rfl)
    · exact He.exm_ok (f 90 (.exm "BadLine" "BadLine" true) rfl)
theorem Txt.e_BadRegion (T : Txt K w mg) (X : Cx) (hK : X.K = K := by rfl) (hm : X.mg = mg := by rfl) : ExcC X "BadRegion" ((fx K w).cls 1) := by
  subst hK
  subst hm
  exact ⟨T.m_BadRegion, T.x_BadRegion.1, T.x_BadRegion.2.1, raises_own T.x_BadRegion.2.2.1 T.x_BadRegion.2.2.2⟩
theorem Txt.e_BadPicture (T : Txt K w mg) (X : Cx) (hK : X.K = K := by rfl) (hm : X.mg = mg := by rfl) : ExcC X "BadPicture" ((fx K w).cls 4) := by
  subst hK
  subst hm
  exact ⟨T.m_BadPicture, T.x_BadPicture.1, T.x_BadPicture.2.1, raises_own T.x_BadPicture.2.2.1 T.x_BadPicture.2.2.2⟩
theorem Txt.e_BadText (T : Txt K w mg) (X : Cx) (hK : X.K = K := by rfl) (hm : X.mg = mg := by rfl) : ExcC X "BadText" ((fx K w).cls 6) := by
  subst hK
  subst hm
  exact ⟨T.m_BadText, T.x_BadText.1, T.x_BadText.2.1, raises_own T.x_BadText.2.2.1 T.x_BadText.2.2.2⟩
structure Lv (P : Program) (w : World) (K : PySem.W.Frag) (mg : Str → Option Value) (base : Heap) (k : Nat) : Prop where
  f_is_whole : FnH P w K mg base k "is_whole" (spP (fx K w) 3 (env k).p_is_whole)
  f_are_numbers : FnH P w K mg base k "are_numbers" (spP (fx K w) 2 (env k).p_are_numbers)
  f_is_nested : FnH P w K mg base k "is_nested" (spP (fx K w) 2 (env k).p_is_nested)
  f_is_region : FnH P w K mg base k "is_region" (spP (fx K w) 1 (env k).p_is_region)
  f_check_region : FnH P w K mg base k "check_region" (spP (fx K w) 1 (env k).p_check_region)
  f_inner_regions : FnH P w K mg base k "inner_regions" (spP (fx K w) 1 (env k).p_inner_regions)
  f_is_colour : FnH P w K mg base k "is_colour" (spP (fx K w) 1 (env k).p_is_colour)
  f_is_paint : FnH P w K mg base k "is_paint" (spP (fx K w) 1 (env k).p_is_paint)
  f_is_picture : FnH P w K mg base k "is_picture" (spP (fx K w) 1 (env k).p_is_picture)
  f_check_picture : FnH P w K mg base k "check_picture" (spP (fx K w) 1 (env k).p_check_picture)
  f_text_of : FnH P w K mg base k "text_of" (spP (fx K w) 1 (env k).p_text_of)
  f_write : FnH P w K mg base k "write" (spP (fx K w) 1 (env k).p_write)
  f_number_of : FnH P w K mg base k "number_of" (spP (fx K w) 1 (env k).p_number_of)
  f_numbers_of : FnH P w K mg base k "numbers_of" (spP (fx K w) 1 (env k).p_numbers_of)
  f_cut : FnH P w K mg base k "cut" (spP (fx K w) 1 (env k).p_cut)
  f_plain_in : FnH P w K mg base k "plain_in" (spP (fx K w) 2 (env k).p_plain_in)
  f_moved_in : FnH P w K mg base k "moved_in" (spP (fx K w) 2 (env k).p_moved_in)
  f_region_in : FnH P w K mg base k "region_in" (spP (fx K w) 2 (env k).p_region_in)
  f_brackets : FnH P w K mg base k "brackets" (spP (fx K w) 1 (env k).p_brackets)
  f_good_region : FnH P w K mg base k "good_region" (spP (fx K w) 2 (env k).p_good_region)
  f_read : FnH P w K mg base k "read" (spP (fx K w) 1 (env k).p_read)
  f_write_picture : FnH P w K mg base k "write_picture" (spP (fx K w) 1 (env k).p_write_picture)
  f_head_and_region : FnH P w K mg base k "head_and_region" (spP (fx K w) 2 (env k).p_head_and_region)
  f_is_name : FnH P w K mg base k "is_name" (spP (fx K w) 1 (env k).p_is_name)
  f_read_picture : FnH P w K mg base k "read_picture" (spP (fx K w) 1 (env k).p_read_picture)
  f_l_begin : FnH P w K mg base k "_law_begin" (spO (fx K w) 1 (env k).o_l_begin)
  f_l_draw : FnH P w K mg base k "_law_draw" (spI (fx K w) 2 (env k).i_l_draw)
  f_l_plain : FnH P w K mg base k "_law_plain" (spI (fx K w) 1 (env k).i_l_plain)
  f_l_region : FnH P w K mg base k "_law_region" (spI (fx K w) 2 (env k).i_l_region)
  f_l_row : FnH P w K mg base k "_law_row" (spP (fx K w) 3 (env k).p_l_row)
  f_l_has : FnH P w K mg base k "_law_has" (spP (fx K w) 5 (env k).p_l_has)
  f_l_cells : FnH P w K mg base k "_law_cells" (spP (fx K w) 3 (env k).p_l_cells)
  f_l_picture : FnH P w K mg base k "_law_picture" (spI (fx K w) 2 (env k).i_l_picture)
  f_l_colour : FnH P w K mg base k "_law_colour" (spP (fx K w) 5 (env k).p_l_colour)
  f_l_like : FnH P w K mg base k "_law_like" (spP (fx K w) 2 (env k).p_l_like)
  f_l_text : FnH P w K mg base k "_law_text" (spP (fx K w) 1 (env k).p_l_text)
  f_law_k09 : FnH P w K mg base k "law" (spP (fx K w) 1 (env k).p_law_k09)
variable (T : Txt K w mg) (X0 : K.In h) (G0 : h.Ns mainGlobals mg)
theorem sc_is_whole : FnScope ["thing", "least", "most"] ["thing", "least", "most"] (defScope (top 11)) := ⟨rfl, rfl, rfl, by decide +kernel, rfl, by decide +kernel, by decide +kernel⟩
include T X0 G0 in
theorem fo_is_whole {k : Nat} {fd : FuncData} (h : Lv P w K mg base k) (FD2 : FunD K "is_whole" "is_whole" (defArgs (top 11)) (defBody (top 11)) (defScope (top 11)) [] [] (He.ga K "is_whole") fd) : FnG P w K mg base (L2.CX P w) (k + 1) (He.ga K "is_whole") fd ["thing", "least", "most"] (spP (fx K w) 3 (env (k + 1)).p_is_whole) := by
  have e0 : (env (k + 1)).p_is_whole = runB 3 (d_is_whole (env k)) := rfl
  rw [e0]
  have q0 := fn_pure (P := P) (w := w) (mg := mg) (base := base) (k := k) (F := fx K w) (d := d_is_whole (env k)) FD2 sc_is_whole
  refine q0 fun cdv A outer s H E hr => ?_
  have nd := sc_is_whole.nd
  refine ss_one ?_
  · refine st_ret ?_
    · refine pp_and ?_ ?_
      · refine pp_isi rfl (by decide) T.n_isinstance rfl T.n_int (by decide +kernel) rfl (by decide) (by decide) ?_ (by rfl) (by rfl) (by rfl)
        · exact pp_var (pv 0)
      · refine pp_and ?_ ?_
        · refine pp_not ?_
          · refine pp_isi rfl (by decide) T.n_isinstance rfl T.n_bool (by decide +kernel) rfl (by decide) (by decide) ?_ (by rfl) (by rfl) (by rfl)
            · exact pp_var (pv 0)
        · refine pp_one ?_
          · refine pp_chain op_le op_le c_le c_le.bin ?_ ?_ ?_ (by with_unfolding_all rfl)
            · exact pp_var (pv 1)
            · exact pp_var (pv 0)
            · exact pp_var (pv 2)
include T X0 G0 in
theorem ok_is_whole {k : Nat} (h : Lv P w K mg base k) : FnH P w K mg base (k + 1) "is_whole" (spP (fx K w) 3 (env (k + 1)).p_is_whole) := by
  obtain ⟨fd, FD⟩ := T.sy.d.def_ 0 (d := ⟨("is_whole", none), "is_whole", "is_whole", defArgs (top 11), defBody (top 11), defScope (top 11), [], []⟩) rfl
  exact ⟨_, fd, ["thing", "least", "most"], He.glo_ok X0 G0 (T.sy.d.fact 0 (f := .glo "is_whole") rfl), FD.kp, FD.bindsN (fun _ _ _ _ _ _ us hl => match us, hl with | [_, _, _], _ => rfl), fo_is_whole T X0 G0 h FD⟩
theorem sc_are_numbers : FnScope ["signs", "things", "sign", "thing"] ["signs", "things"] (defScope (top 12)) := ⟨rfl, rfl, rfl, by decide +kernel, rfl, by decide +kernel, by decide +kernel⟩
include T X0 G0 in
theorem fo_are_numbers {k : Nat} {fd : FuncData} (h : Lv P w K mg base k) (FD2 : FunD K "are_numbers" "are_numbers" (defArgs (top 12)) (defBody (top 12)) (defScope (top 12)) [] [] (He.ga K "are_numbers") fd) : FnG P w K mg base (L2.CX P w) (k + 1) (He.ga K "are_numbers") fd ["signs", "things"] (spP (fx K w) 2 (env (k + 1)).p_are_numbers) := by
  have e0 : (env (k + 1)).p_are_numbers = runB 4 (d_are_numbers (env k)) := rfl
  rw [e0]
  have q0 := fn_pure (P := P) (w := w) (mg := mg) (base := base) (k := k) (F := fx K w) (d := d_are_numbers (env k)) FD2 sc_are_numbers
  refine q0 fun cdv A outer s H E hr => ?_
  have nd := sc_are_numbers.nd
  refine ss_cons ?_ ?_
  · refine st_if ?_ ?_ ?_
    · refine pt_cmp' (op_neD hr.units) (c_ne rfl).bin ?_ ?_ (nomark _)
      · refine pp_fun call_lenA (f_len rfl) T.n_len (by decide +kernel) rfl ?_ (by decide) (by decide) (by rfl) (by rfl)
        · refine pq_cons ?_ ?_ (by rfl)
          · exact pp_var (pv 1)
          · exact pq_nil
      · refine pp_fun call_lenA (f_len rfl) T.n_len (by decide +kernel) rfl ?_ (by decide) (by decide) (by rfl) (by rfl)
        · refine pq_cons ?_ ?_ (by rfl)
          · exact pp_var (pv 0)
          · exact pq_nil
    · refine ss_one ?_
      · refine st_ret ?_
        · exact pp_bl
    · exact ss_nil
  · refine ss_one ?_
    · refine st_ret ?_
      · refine pp_fun (cr_all rfl) f_all T.n_all (by decide +kernel) rfl ?_ (by decide) (by decide) (by rfl) (by rfl)
        · refine pq_cons ?_ ?_ (by rfl)
          · refine pp_comp (own := [("sign", 2), ("thing", 3)]) rfl nd ?_ (blkC_of (N' := ["signs", "things", "sign", "thing"]) (sc' := defScope (top 12)) rfl rfl (by decide +kernel)) (tg_tup rfl (tgs_cons (tgs_cons tgs_nil)) rfl) rfl (fun _ _ _ _ _ => (pg_tup rfl (pgs_cons (pg_name (i := 2) nd rfl (by first | exact Or.inl rfl | exact Or.inr rfl)) (pgs_cons (pg_name (i := 3) nd rfl (by first | exact Or.inl rfl | exact Or.inr rfl)) pgs_nil)))) (fun _ _ _ _ _ => ?_) (fun _ _ _ _ _ => ?_) (by intro _; rfl)
            · refine qi_zip rfl rfl T.n_zip ?_ (by rfl) (by rfl)
              · refine pq_cons ?_ ?_ (by rfl)
                · exact pp_var (pv 0)
                · refine pq_cons ?_ ?_ (by rfl)
                  · exact pp_var (pv 1)
                  · exact pq_nil
            · exact qts_nil
            · refine pc h.f_is_whole takes0 hr rfl ?_ (by rfl) (by decide) (by rfl) (by rfl)
              · refine pq_cons ?_ ?_ (by rfl)
                · exact pp_var (pv 3)
                · refine pq_cons ?_ ?_ (by rfl)
                  · exact pp_int
                  · refine pq_cons ?_ ?_ (by rfl)
                    · refine pp_if ?_ ?_ ?_
                      · refine pt_cmp' (op_eqD hr.units) (c_eq rfl).bin ?_ ?_ (nomark _)
                        · exact pp_var (pv 2)
                        · exact pp_str
                      · exact pp_int
                      · exact pp_int
                    · exact pq_nil
          · exact pq_nil
include T X0 G0 in
theorem ok_are_numbers {k : Nat} (h : Lv P w K mg base k) : FnH P w K mg base (k + 1) "are_numbers" (spP (fx K w) 2 (env (k + 1)).p_are_numbers) := by
  obtain ⟨fd, FD⟩ := T.sy.d.def_ 1 (d := ⟨("are_numbers", none), "are_numbers", "are_numbers", defArgs (top 12), defBody (top 12), defScope (top 12), [], []⟩) rfl
  exact ⟨_, fd, ["signs", "things"], He.glo_ok X0 G0 (T.sy.d.fact 1 (f := .glo "are_numbers") rfl), FD.kp, FD.bindsN (fun _ _ _ _ _ _ us hl => match us, hl with | [_, _], _ => rfl), fo_are_numbers T X0 G0 h FD⟩
theorem sc_is_nested : FnScope ["thing", "deep", "one"] ["thing", "deep"] (defScope (top 13)) := ⟨rfl, rfl, rfl, by decide +kernel, rfl, by decide +kernel, by decide +kernel⟩
include T X0 G0 in
theorem fo_is_nested {k : Nat} {fd : FuncData} (h : Lv P w K mg base k) (FD2 : FunD K "is_nested" "is_nested" (defArgs (top 13)) (defBody (top 13)) (defScope (top 13)) [] [] (He.ga K "is_nested") fd) : FnG P w K mg base (L2.CX P w) (k + 1) (He.ga K "is_nested") fd ["thing", "deep"] (spP (fx K w) 2 (env (k + 1)).p_is_nested) := by
  have e0 : (env (k + 1)).p_is_nested = runB 3 (d_is_nested (env k)) := rfl
  rw [e0]
  have q0 := fn_pure (P := P) (w := w) (mg := mg) (base := base) (k := k) (F := fx K w) (d := d_is_nested (env k)) FD2 sc_is_nested
  refine q0 fun cdv A outer s H E hr => ?_
  have nd := sc_is_nested.nd
  refine ss_cons ?_ ?_
  · refine st_if ?_ ?_ ?_
    · refine PW.pt ?_
      · refine qw_or ?_ ?_
        · refine pt_cmp' (op_eqD hr.units) (c_eq rfl).bin ?_ ?_ (nomark _)
          · exact pp_var (pv 1)
          · exact pp_int
        · refine qw_or ?_ ?_
          · refine qt_not ?_
            · refine pt_tru rfl ?_ (by intro _; rfl)
              · refine pp_isi rfl (by decide) T.n_isinstance rfl T.n_tuple (by decide +kernel) rfl (by decide) (by decide) ?_ (by rfl) (by rfl) (by rfl)
                · exact pp_var (pv 0)
          · refine qw_or ?_ ?_
            · refine qt_not ?_
              · refine pt_tru rfl ?_ (by intro _; rfl)
                · exact pp_var (pv 0)
            · refine qw_or1 ?_
              · refine qt_not ?_
                · refine pt_tru rfl ?_ (by intro _; rfl)
                  · refine pp_isi rfl (by decide) T.n_isinstance rfl T.n_str (by decide +kernel) rfl (by decide) (by decide) ?_ (by rfl) (by rfl) (by rfl)
                    · refine pp_ix rfl ?_ ?_ (by intro _ _; rfl)
                      · exact pp_var (pv 0)
                      · exact pp_int
    · refine ss_one ?_
      · refine st_ret ?_
        · exact pp_bl
    · exact ss_nil
  · refine ss_cons ?_ ?_
    · refine st_if ?_ ?_ ?_
      · refine pt_inT rfl rfl T.k_PLAIN T.g_PLAIN rfl ?_ (by decide)
        · refine pp_ix rfl ?_ ?_ (by intro _ _; rfl)
          · exact pp_var (pv 0)
          · exact pp_int
      · refine ss_one ?_
        · refine st_ret ?_
          · refine pc h.f_are_numbers (takes_of rfl rfl rfl rfl) hr rfl ?_ (by rfl) (by decide) (by rfl) (by rfl)
            · refine pq_cons ?_ ?_ (by rfl)
              · refine pp_getT rfl rfl T.k_PLAIN T.g_PLAIN rfl ?_ (fun _ _ => rfl) (by decide)
                · refine pp_ix rfl ?_ ?_ (by intro _ _; rfl)
                  · exact pp_var (pv 0)
                  · exact pp_int
              · refine pq_cons ?_ ?_ (by rfl)
                · refine pp_sl rfl ?_ ?_ ?_
                  · exact pp_var (pv 0)
                  · refine qo_some ?_
                    · exact pp_int
                  · exact qo_none
                · exact pq_nil
      · exact ss_nil
    · refine ss_cons ?_ ?_
      · refine st_if ?_ ?_ ?_
        · refine pt_inT rfl rfl T.k_INNER T.g_INNER rfl ?_ (by decide)
          · refine pp_ix rfl ?_ ?_ (by intro _ _; rfl)
            · exact pp_var (pv 0)
            · exact pp_int
        · refine ss_one ?_
          · refine st_ret ?_
            · refine pp_and ?_ ?_
              · refine pp_cmp (op_eqD hr.units) (c_eq rfl).bin ?_ ?_ (nomark _)
                · refine pp_fun call_lenA (f_len rfl) T.n_len (by decide +kernel) rfl ?_ (by decide) (by decide) (by rfl) (by rfl)
                  · refine pq_cons ?_ ?_ (by rfl)
                    · exact pp_var (pv 0)
                    · exact pq_nil
                · refine pp_op op_addA (b_add rfl) ?_ ?_
                  · exact pp_int
                  · refine pp_getT rfl rfl T.k_INNER T.g_INNER rfl ?_ (fun _ _ => rfl) (by decide)
                    · refine pp_ix rfl ?_ ?_ (by intro _ _; rfl)
                      · exact pp_var (pv 0)
                      · exact pp_int
              · refine pp_one ?_
                · refine pp_fun (cr_all rfl) f_all T.n_all (by decide +kernel) rfl ?_ (by decide) (by decide) (by rfl) (by rfl)
                  · refine pq_cons ?_ ?_ (by rfl)
                    · refine pp_comp (own := [("one", 2)]) rfl nd ?_ (blkC_of (N' := ["thing", "deep", "one"]) (sc' := defScope (top 13)) rfl rfl (by decide +kernel)) tg_one rfl (fun _ _ _ _ _ => (pg_name (i := 2) nd rfl (by first | exact Or.inl rfl | exact Or.inr rfl))) (fun _ _ _ _ _ => ?_) (fun _ _ _ _ _ => ?_) (by intro _; rfl)
                      · refine qi_seq rfl ?_
                        · refine pp_sl rfl ?_ ?_ ?_
                          · exact pp_var (pv 0)
                          · refine qo_some ?_
                            · exact pp_int
                          · exact qo_none
                      · exact qts_nil
                      · refine pc h.f_is_nested takes0 hr rfl ?_ (by rfl) (by decide) (by rfl) (by rfl)
                        · refine pq_cons ?_ ?_ (by rfl)
                          · exact pp_var (pv 2)
                          · refine pq_cons ?_ ?_ (by rfl)
                            · refine pp_op op_sub b_sub ?_ ?_
                              · exact pp_var (pv 1)
                              · exact pp_int
                            · exact pq_nil
                    · exact pq_nil
        · exact ss_nil
      · refine ss_cons ?_ ?_
        · refine st_if ?_ ?_ ?_
          · refine PW.pt ?_
            · refine qw_or ?_ ?_
              · refine pt_cmp' (op_neD hr.units) (c_ne rfl).bin ?_ ?_ (nomark _)
                · refine pp_ix rfl ?_ ?_ (by intro _ _; rfl)
                  · exact pp_var (pv 0)
                  · exact pp_int
                · exact pp_str
              · refine qw_or ?_ ?_
                · refine pt_cmp' (op_neD hr.units) (c_ne rfl).bin ?_ ?_ (nomark _)
                  · refine pp_fun call_lenA (f_len rfl) T.n_len (by decide +kernel) rfl ?_ (by decide) (by decide) (by rfl) (by rfl)
                    · refine pq_cons ?_ ?_ (by rfl)
                      · exact pp_var (pv 0)
                      · exact pq_nil
                  · exact pp_int
                · refine qw_or1 ?_
                  · refine qt_not ?_
                    · refine pt_tru rfl ?_ (by intro _; rfl)
                      · refine pp_fun (cr_all rfl) f_all T.n_all (by decide +kernel) rfl ?_ (by decide) (by decide) (by rfl) (by rfl)
                        · refine pq_cons ?_ ?_ (by rfl)
                          · refine pp_comp (own := [("one", 2)]) rfl nd ?_ (blkC_of (N' := ["thing", "deep", "one"]) (sc' := defScope (top 13)) rfl rfl (by decide +kernel)) tg_one rfl (fun _ _ _ _ _ => (pg_name (i := 2) nd rfl (by first | exact Or.inl rfl | exact Or.inr rfl))) (fun _ _ _ _ _ => ?_) (fun _ _ _ _ _ => ?_) (by intro _; rfl)
                            · refine qi_seq rfl ?_
                              · refine pp_sl rfl ?_ ?_ ?_
                                · exact pp_var (pv 0)
                                · refine qo_some ?_
                                  · exact pp_int
                                · refine qo_some ?_
                                  · exact pp_int
                            · exact qts_nil
                            · refine pc h.f_is_whole takes0 hr rfl ?_ (by rfl) (by decide) (by rfl) (by rfl)
                              · refine pq_cons ?_ ?_ (by rfl)
                                · exact pp_var (pv 2)
                                · refine pq_cons ?_ ?_ (by rfl)
                                  · refine pp_un un_neg u_neg ?_
                                    · exact pp_int
                                  · refine pq_cons ?_ ?_ (by rfl)
                                    · exact pp_int
                                    · exact pq_nil
                          · exact pq_nil
          · refine ss_one ?_
            · refine st_ret ?_
              · exact pp_bl
          · exact ss_nil
        · refine ss_one ?_
          · refine st_ret ?_
            · refine pc h.f_is_nested (takes_of rfl rfl rfl rfl) hr rfl ?_ (by rfl) (by decide) (by rfl) (by rfl)
              · refine pq_cons ?_ ?_ (by rfl)
                · refine pp_ix rfl ?_ ?_ (by intro _ _; rfl)
                  · exact pp_var (pv 0)
                  · exact pp_int
                · refine pq_cons ?_ ?_ (by rfl)
                  · refine pp_op op_sub b_sub ?_ ?_
                    · exact pp_var (pv 1)
                    · exact pp_int
                  · exact pq_nil
include T X0 G0 in
theorem ok_is_nested {k : Nat} (h : Lv P w K mg base k) : FnH P w K mg base (k + 1) "is_nested" (spP (fx K w) 2 (env (k + 1)).p_is_nested) := by
  obtain ⟨fd, FD⟩ := T.sy.d.def_ 2 (d := ⟨("is_nested", none), "is_nested", "is_nested", defArgs (top 13), defBody (top 13), defScope (top 13), [], []⟩) rfl
  exact ⟨_, fd, ["thing", "deep"], He.glo_ok X0 G0 (T.sy.d.fact 2 (f := .glo "is_nested") rfl), FD.kp, FD.bindsN (fun _ _ _ _ _ _ us hl => match us, hl with | [_, _], _ => rfl), fo_is_nested T X0 G0 h FD⟩
theorem sc_is_region : FnScope ["thing"] ["thing"] (defScope (top 14)) := ⟨rfl, rfl, rfl, by decide +kernel, rfl, by decide +kernel, by decide +kernel⟩
include T X0 G0 in
theorem fo_is_region {k : Nat} {fd : FuncData} (h : Lv P w K mg base k) (FD2 : FunD K "is_region" "is_region" (defArgs (top 14)) (defBody (top 14)) (defScope (top 14)) [] [] (He.ga K "is_region") fd) : FnG P w K mg base (L2.CX P w) (k + 1) (He.ga K "is_region") fd ["thing"] (spP (fx K w) 1 (env (k + 1)).p_is_region) := by
  have e0 : (env (k + 1)).p_is_region = runB 1 (d_is_region (env k)) := rfl
  rw [e0]
  have q0 := fn_pure (P := P) (w := w) (mg := mg) (base := base) (k := k) (F := fx K w) (d := d_is_region (env k)) FD2 sc_is_region
  refine q0 fun cdv A outer s H E hr => ?_
  have nd := sc_is_region.nd
  refine ss_one ?_
  · refine st_ret ?_
    · refine pc h.f_is_nested (takes_of rfl rfl rfl rfl) hr rfl ?_ (by rfl) (by decide) (by rfl) (by rfl)
      · refine pq_cons ?_ ?_ (by rfl)
        · exact pp_var (pv 0)
        · refine pq_cons ?_ ?_ (by rfl)
          · exact pp_gint T.g_MOST_DEEP rfl (by decide)
          · exact pq_nil
include T X0 G0 in
theorem ok_is_region {k : Nat} (h : Lv P w K mg base k) : FnH P w K mg base (k + 1) "is_region" (spP (fx K w) 1 (env (k + 1)).p_is_region) := by
  obtain ⟨fd, FD⟩ := T.sy.d.def_ 3 (d := ⟨("is_region", none), "is_region", "is_region", defArgs (top 14), defBody (top 14), defScope (top 14), [], []⟩) rfl
  exact ⟨_, fd, ["thing"], He.glo_ok X0 G0 (T.sy.d.fact 3 (f := .glo "is_region") rfl), FD.kp, FD.bindsN (fun _ _ _ _ _ _ us hl => match us, hl with | [_], _ => rfl), fo_is_region T X0 G0 h FD⟩
theorem sc_check_region : FnScope ["thing"] ["thing"] (defScope (top 15)) := ⟨rfl, rfl, rfl, by decide +kernel, rfl, by decide +kernel, by decide +kernel⟩
include T X0 G0 in
theorem fo_check_region {k : Nat} {fd : FuncData} (h : Lv P w K mg base k) (FD2 : FunD K "check_region" "check_region" (defArgs (top 15)) (defBody (top 15)) (defScope (top 15)) [] [] (He.ga K "check_region") fd) : FnG P w K mg base (L2.CX P w) (k + 1) (He.ga K "check_region") fd ["thing"] (spP (fx K w) 1 (env (k + 1)).p_check_region) := by
  have e0 : (env (k + 1)).p_check_region = runB 1 (d_check_region (env k)) := rfl
  rw [e0]
  have q0 := fn_pure (P := P) (w := w) (mg := mg) (base := base) (k := k) (F := fx K w) (d := d_check_region (env k)) FD2 sc_check_region
  refine q0 fun cdv A outer s H E hr => ?_
  have nd := sc_check_region.nd
  refine ss_one ?_
  · refine st_if ?_ ?_ ?_
    · refine qt_not ?_
      · refine pt_tru rfl ?_ (by intro _; rfl)
        · refine pc h.f_is_region (takes_of rfl rfl rfl rfl) hr rfl ?_ (by rfl) (by decide) (by rfl) (by rfl)
          · refine pq_cons ?_ ?_ (by rfl)
            · exact pp_var (pv 0)
            · exact pq_nil
    · refine ss_one ?_
      · exact st_raise (c := 1) rfl (takes_of rfl rfl rfl rfl) (T.e_BadRegion _) rfl (by decide)
    · exact ss_nil
include T X0 G0 in
theorem ok_check_region {k : Nat} (h : Lv P w K mg base k) : FnH P w K mg base (k + 1) "check_region" (spP (fx K w) 1 (env (k + 1)).p_check_region) := by
  obtain ⟨fd, FD⟩ := T.sy.d.def_ 4 (d := ⟨("check_region", none), "check_region", "check_region", defArgs (top 15), defBody (top 15), defScope (top 15), [], []⟩) rfl
  exact ⟨_, fd, ["thing"], He.glo_ok X0 G0 (T.sy.d.fact 4 (f := .glo "check_region") rfl), FD.kp, FD.bindsN (fun _ _ _ _ _ _ us hl => match us, hl with | [_], _ => rfl), fo_check_region T X0 G0 h FD⟩
theorem sc_inner_regions : FnScope ["region"] ["region"] (defScope (top 16)) := ⟨rfl, rfl, rfl, by decide +kernel, rfl, by decide +kernel, by decide +kernel⟩
include T X0 G0 in
theorem fo_inner_regions {k : Nat} {fd : FuncData} (h : Lv P w K mg base k) (FD2 : FunD K "inner_regions" "inner_regions" (defArgs (top 16)) (defBody (top 16)) (defScope (top 16)) [] [] (He.ga K "inner_regions") fd) : FnG P w K mg base (L2.CX P w) (k + 1) (He.ga K "inner_regions") fd ["region"] (spP (fx K w) 1 (env (k + 1)).p_inner_regions) := by
  have e0 : (env (k + 1)).p_inner_regions = runB 1 (d_inner_regions (env k)) := rfl
  rw [e0]
  have q0 := fn_pure (P := P) (w := w) (mg := mg) (base := base) (k := k) (F := fx K w) (d := d_inner_regions (env k)) FD2 sc_inner_regions
  refine q0 fun cdv A outer s H E hr => ?_
  have nd := sc_inner_regions.nd
  refine ss_cons ?_ ?_
  · refine st_if ?_ ?_ ?_
    · refine pt_cmp' (op_eqD hr.units) (c_eq rfl).bin ?_ ?_ (nomark _)
      · refine pp_ix rfl ?_ ?_ (by intro _ _; rfl)
        · exact pp_var (pv 0)
        · exact pp_int
      · exact pp_str
    · refine ss_one ?_
      · refine st_ret ?_
        · refine pp_lst ?_
          · refine pq_cons ?_ ?_ (by rfl)
            · refine pp_ix rfl ?_ ?_ (by intro _ _; rfl)
              · exact pp_var (pv 0)
              · exact pp_int
            · exact pq_nil
    · exact ss_nil
  · refine ss_one ?_
    · refine st_ret ?_
      · refine pp_if ?_ ?_ ?_
        · refine pt_inT rfl rfl T.k_INNER T.g_INNER rfl ?_ (by decide)
          · refine pp_ix rfl ?_ ?_ (by intro _ _; rfl)
            · exact pp_var (pv 0)
            · exact pp_int
        · refine pp_ty call_list_of (f_list rfl) T.n_list (by decide +kernel) rfl ?_ (by decide) (by decide) (by rfl) (by rfl)
          · refine pq_cons ?_ ?_ (by rfl)
            · refine pp_sl rfl ?_ ?_ ?_
              · exact pp_var (pv 0)
              · refine qo_some ?_
                · exact pp_int
              · exact qo_none
            · exact pq_nil
        · refine pp_lst ?_
          · exact pq_nil
include T X0 G0 in
theorem ok_inner_regions {k : Nat} (h : Lv P w K mg base k) : FnH P w K mg base (k + 1) "inner_regions" (spP (fx K w) 1 (env (k + 1)).p_inner_regions) := by
  obtain ⟨fd, FD⟩ := T.sy.d.def_ 5 (d := ⟨("inner_regions", none), "inner_regions", "inner_regions", defArgs (top 16), defBody (top 16), defScope (top 16), [], []⟩) rfl
  exact ⟨_, fd, ["region"], He.glo_ok X0 G0 (T.sy.d.fact 5 (f := .glo "inner_regions") rfl), FD.kp, FD.bindsN (fun _ _ _ _ _ _ us hl => match us, hl with | [_], _ => rfl), fo_inner_regions T X0 G0 h FD⟩
theorem sc_is_colour : FnScope ["thing", "sign"] ["thing"] (defScope (top 20)) := ⟨rfl, rfl, rfl, by decide +kernel, rfl, by decide +kernel, by decide +kernel⟩
include T X0 G0 in
theorem fo_is_colour {k : Nat} {fd : FuncData} (h : Lv P w K mg base k) (FD2 : FunD K "is_colour" "is_colour" (defArgs (top 20)) (defBody (top 20)) (defScope (top 20)) [] [] (He.ga K "is_colour") fd) : FnG P w K mg base (L2.CX P w) (k + 1) (He.ga K "is_colour") fd ["thing"] (spP (fx K w) 1 (env (k + 1)).p_is_colour) := by
  have e0 : (env (k + 1)).p_is_colour = runB 2 (d_is_colour (env k)) := rfl
  rw [e0]
  have q0 := fn_pure (P := P) (w := w) (mg := mg) (base := base) (k := k) (F := fx K w) (d := d_is_colour (env k)) FD2 sc_is_colour
  refine q0 fun cdv A outer s H E hr => ?_
  have nd := sc_is_colour.nd
  refine ss_one ?_
  · refine st_ret ?_
    · refine pp_and ?_ ?_
      · refine pp_isi rfl (by decide) T.n_isinstance rfl T.n_str (by decide +kernel) rfl (by decide) (by decide) ?_ (by rfl) (by rfl) (by rfl)
        · exact pp_var (pv 0)
      · refine pp_and ?_ ?_
        · refine pp_chain op_le op_le c_le c_le.bin ?_ ?_ ?_ (by with_unfolding_all rfl)
          · exact pp_int
          · refine pp_fun call_lenA (f_len rfl) T.n_len (by decide +kernel) rfl ?_ (by decide) (by decide) (by rfl) (by rfl)
            · refine pq_cons ?_ ?_ (by rfl)
              · exact pp_var (pv 0)
              · exact pq_nil
          · exact pp_int
        · refine pp_one ?_
          · refine pp_fun (cr_all rfl) f_all T.n_all (by decide +kernel) rfl ?_ (by decide) (by decide) (by rfl) (by rfl)
            · refine pq_cons ?_ ?_ (by rfl)
              · refine pp_comp (own := [("sign", 1)]) rfl nd ?_ (blkC_of (N' := ["thing", "sign"]) (sc' := defScope (top 20)) rfl rfl (by decide +kernel)) tg_one rfl (fun _ _ _ _ _ => (pg_name (i := 1) nd rfl (by first | exact Or.inl rfl | exact Or.inr rfl))) (fun _ _ _ _ _ => ?_) (fun _ _ _ _ _ => ?_) (by intro _; rfl)
                · refine qi_seq rfl ?_
                  · exact pp_var (pv 0)
                · exact qts_nil
                · refine pp_cmp (op_inA hr.u65) (c_in rfl).bin ?_ ?_ rfl
                  · exact pp_var (pv 1)
                  · exact pp_gstr T.g_SMALL rfl (by decide)
              · exact pq_nil
include T X0 G0 in
theorem ok_is_colour {k : Nat} (h : Lv P w K mg base k) : FnH P w K mg base (k + 1) "is_colour" (spP (fx K w) 1 (env (k + 1)).p_is_colour) := by
  obtain ⟨fd, FD⟩ := T.sy.d.def_ 6 (d := ⟨("is_colour", none), "is_colour", "is_colour", defArgs (top 20), defBody (top 20), defScope (top 20), [], []⟩) rfl
  exact ⟨_, fd, ["thing"], He.glo_ok X0 G0 (T.sy.d.fact 6 (f := .glo "is_colour") rfl), FD.kp, FD.bindsN (fun _ _ _ _ _ _ us hl => match us, hl with | [_], _ => rfl), fo_is_colour T X0 G0 h FD⟩
theorem sc_is_paint : FnScope ["thing"] ["thing"] (defScope (top 21)) := ⟨rfl, rfl, rfl, by decide +kernel, rfl, by decide +kernel, by decide +kernel⟩
include T X0 G0 in
theorem fo_is_paint {k : Nat} {fd : FuncData} (h : Lv P w K mg base k) (FD2 : FunD K "is_paint" "is_paint" (defArgs (top 21)) (defBody (top 21)) (defScope (top 21)) [] [] (He.ga K "is_paint") fd) : FnG P w K mg base (L2.CX P w) (k + 1) (He.ga K "is_paint") fd ["thing"] (spP (fx K w) 1 (env (k + 1)).p_is_paint) := by
  have e0 : (env (k + 1)).p_is_paint = runB 1 (d_is_paint (env k)) := rfl
  rw [e0]
  have q0 := fn_pure (P := P) (w := w) (mg := mg) (base := base) (k := k) (F := fx K w) (d := d_is_paint (env k)) FD2 sc_is_paint
  refine q0 fun cdv A outer s H E hr => ?_
  have nd := sc_is_paint.nd
  refine ss_one ?_
  · refine st_ret ?_
    · refine pp_and ?_ ?_
      · refine pp_isi rfl (by decide) T.n_isinstance rfl T.n_tuple (by decide +kernel) rfl (by decide) (by decide) ?_ (by rfl) (by rfl) (by rfl)
        · exact pp_var (pv 0)
      · refine pp_and ?_ ?_
        · refine pp_cmp (op_eqD hr.units) (c_eq rfl).bin ?_ ?_ (nomark _)
          · refine pp_fun call_lenA (f_len rfl) T.n_len (by decide +kernel) rfl ?_ (by decide) (by decide) (by rfl) (by rfl)
            · refine pq_cons ?_ ?_ (by rfl)
              · exact pp_var (pv 0)
              · exact pq_nil
          · exact pp_int
        · refine pp_and ?_ ?_
          · refine pc h.f_is_colour (takes_of rfl rfl rfl rfl) hr rfl ?_ (by rfl) (by decide) (by rfl) (by rfl)
            · refine pq_cons ?_ ?_ (by rfl)
              · refine pp_ix rfl ?_ ?_ (by intro _ _; rfl)
                · exact pp_var (pv 0)
                · exact pp_int
              · exact pq_nil
          · refine pp_one ?_
            · refine pc h.f_is_region (takes_of rfl rfl rfl rfl) hr rfl ?_ (by rfl) (by decide) (by rfl) (by rfl)
              · refine pq_cons ?_ ?_ (by rfl)
                · refine pp_ix rfl ?_ ?_ (by intro _ _; rfl)
                  · exact pp_var (pv 0)
                  · exact pp_int
                · exact pq_nil
include T X0 G0 in
theorem ok_is_paint {k : Nat} (h : Lv P w K mg base k) : FnH P w K mg base (k + 1) "is_paint" (spP (fx K w) 1 (env (k + 1)).p_is_paint) := by
  obtain ⟨fd, FD⟩ := T.sy.d.def_ 7 (d := ⟨("is_paint", none), "is_paint", "is_paint", defArgs (top 21), defBody (top 21), defScope (top 21), [], []⟩) rfl
  exact ⟨_, fd, ["thing"], He.glo_ok X0 G0 (T.sy.d.fact 7 (f := .glo "is_paint") rfl), FD.kp, FD.bindsN (fun _ _ _ _ _ _ us hl => match us, hl with | [_], _ => rfl), fo_is_paint T X0 G0 h FD⟩
theorem sc_is_picture : FnScope ["thing", "paint"] ["thing"] (defScope (top 22)) := ⟨rfl, rfl, rfl, by decide +kernel, rfl, by decide +kernel, by decide +kernel⟩
include T X0 G0 in
theorem fo_is_picture {k : Nat} {fd : FuncData} (h : Lv P w K mg base k) (FD2 : FunD K "is_picture" "is_picture" (defArgs (top 22)) (defBody (top 22)) (defScope (top 22)) [] [] (He.ga K "is_picture") fd) : FnG P w K mg base (L2.CX P w) (k + 1) (He.ga K "is_picture") fd ["thing"] (spP (fx K w) 1 (env (k + 1)).p_is_picture) := by
  have e0 : (env (k + 1)).p_is_picture = runB 2 (d_is_picture (env k)) := rfl
  rw [e0]
  have q0 := fn_pure (P := P) (w := w) (mg := mg) (base := base) (k := k) (F := fx K w) (d := d_is_picture (env k)) FD2 sc_is_picture
  refine q0 fun cdv A outer s H E hr => ?_
  have nd := sc_is_picture.nd
  refine ss_one ?_
  · refine st_ret ?_
    · refine pp_and ?_ ?_
      · refine pp_isi rfl (by decide) T.n_isinstance rfl T.n_tuple (by decide +kernel) rfl (by decide) (by decide) ?_ (by rfl) (by rfl) (by rfl)
        · exact pp_var (pv 0)
      · refine pp_and ?_ ?_
        · refine pp_cmp op_le c_le.bin ?_ ?_ (nomark _)
          · refine pp_fun call_lenA (f_len rfl) T.n_len (by decide +kernel) rfl ?_ (by decide) (by decide) (by rfl) (by rfl)
            · refine pq_cons ?_ ?_ (by rfl)
              · exact pp_var (pv 0)
              · exact pq_nil
          · exact pp_gint T.g_MOST_PAINTS rfl (by decide)
        · refine pp_one ?_
          · refine pp_fun (cr_all rfl) f_all T.n_all (by decide +kernel) rfl ?_ (by decide) (by decide) (by rfl) (by rfl)
            · refine pq_cons ?_ ?_ (by rfl)
              · refine pp_comp (own := [("paint", 1)]) rfl nd ?_ (blkC_of (N' := ["thing", "paint"]) (sc' := defScope (top 22)) rfl rfl (by decide +kernel)) tg_one rfl (fun _ _ _ _ _ => (pg_name (i := 1) nd rfl (by first | exact Or.inl rfl | exact Or.inr rfl))) (fun _ _ _ _ _ => ?_) (fun _ _ _ _ _ => ?_) (by intro _; rfl)
                · refine qi_seq rfl ?_
                  · exact pp_var (pv 0)
                · exact qts_nil
                · refine pc h.f_is_paint takes0 hr rfl ?_ (by rfl) (by decide) (by rfl) (by rfl)
                  · refine pq_cons ?_ ?_ (by rfl)
                    · exact pp_var (pv 1)
                    · exact pq_nil
              · exact pq_nil
include T X0 G0 in
theorem ok_is_picture {k : Nat} (h : Lv P w K mg base k) : FnH P w K mg base (k + 1) "is_picture" (spP (fx K w) 1 (env (k + 1)).p_is_picture) := by
  obtain ⟨fd, FD⟩ := T.sy.d.def_ 8 (d := ⟨("is_picture", none), "is_picture", "is_picture", defArgs (top 22), defBody (top 22), defScope (top 22), [], []⟩) rfl
  exact ⟨_, fd, ["thing"], He.glo_ok X0 G0 (T.sy.d.fact 8 (f := .glo "is_picture") rfl), FD.kp, FD.bindsN (fun _ _ _ _ _ _ us hl => match us, hl with | [_], _ => rfl), fo_is_picture T X0 G0 h FD⟩
theorem sc_check_picture : FnScope ["thing"] ["thing"] (defScope (top 23)) := ⟨rfl, rfl, rfl, by decide +kernel, rfl, by decide +kernel, by decide +kernel⟩
include T X0 G0 in
theorem fo_check_picture {k : Nat} {fd : FuncData} (h : Lv P w K mg base k) (FD2 : FunD K "check_picture" "check_picture" (defArgs (top 23)) (defBody (top 23)) (defScope (top 23)) [] [] (He.ga K "check_picture") fd) : FnG P w K mg base (L2.CX P w) (k + 1) (He.ga K "check_picture") fd ["thing"] (spP (fx K w) 1 (env (k + 1)).p_check_picture) := by
  have e0 : (env (k + 1)).p_check_picture = runB 1 (d_check_picture (env k)) := rfl
  rw [e0]
  have q0 := fn_pure (P := P) (w := w) (mg := mg) (base := base) (k := k) (F := fx K w) (d := d_check_picture (env k)) FD2 sc_check_picture
  refine q0 fun cdv A outer s H E hr => ?_
  have nd := sc_check_picture.nd
  refine ss_one ?_
  · refine st_if ?_ ?_ ?_
    · refine qt_not ?_
      · refine pt_tru rfl ?_ (by intro _; rfl)
        · refine pc h.f_is_picture (takes_of rfl rfl rfl rfl) hr rfl ?_ (by rfl) (by decide) (by rfl) (by rfl)
          · refine pq_cons ?_ ?_ (by rfl)
            · exact pp_var (pv 0)
            · exact pq_nil
    · refine ss_one ?_
      · exact st_raise (c := 4) rfl (takes_of rfl rfl rfl rfl) (T.e_BadPicture _) rfl (by decide)
    · exact ss_nil
include T X0 G0 in
theorem ok_check_picture {k : Nat} (h : Lv P w K mg base k) : FnH P w K mg base (k + 1) "check_picture" (spP (fx K w) 1 (env (k + 1)).p_check_picture) := by
  obtain ⟨fd, FD⟩ := T.sy.d.def_ 9 (d := ⟨("check_picture", none), "check_picture", "check_picture", defArgs (top 23), defBody (top 23), defScope (top 23), [], []⟩) rfl
  exact ⟨_, fd, ["thing"], He.glo_ok X0 G0 (T.sy.d.fact 9 (f := .glo "check_picture") rfl), FD.kp, FD.bindsN (fun _ _ _ _ _ _ us hl => match us, hl with | [_], _ => rfl), fo_check_picture T X0 G0 h FD⟩
theorem sc_text_of : FnScope ["region", "inner", "one", "part"] ["region"] (defScope (top 26)) := ⟨rfl, rfl, rfl, by decide +kernel, rfl, by decide +kernel, by decide +kernel⟩
include T X0 G0 in
theorem fo_text_of {k : Nat} {fd : FuncData} (h : Lv P w K mg base k) (FD2 : FunD K "text_of" "text_of" (defArgs (top 26)) (defBody (top 26)) (defScope (top 26)) [] [] (He.ga K "text_of") fd) : FnG P w K mg base (L2.CX P w) (k + 1) (He.ga K "text_of") fd ["region"] (spP (fx K w) 1 (env (k + 1)).p_text_of) := by
  have e0 : (env (k + 1)).p_text_of = runB 4 (d_text_of (env k)) := rfl
  rw [e0]
  have q0 := fn_pure (P := P) (w := w) (mg := mg) (base := base) (k := k) (F := fx K w) (d := d_text_of (env k)) FD2 sc_text_of
  refine q0 fun cdv A outer s H E hr => ?_
  have nd := sc_text_of.nd
  refine ss_cons ?_ ?_
  · refine st_if ?_ ?_ ?_
    · refine pt_inT rfl rfl T.k_PLAIN T.g_PLAIN rfl ?_ (by decide)
      · refine pp_ix rfl ?_ ?_ (by intro _ _; rfl)
        · exact pp_var (pv 0)
        · exact pp_int
    · refine ss_one ?_
      · refine st_ret ?_
        · refine pp_join ?_ ?_ (by rfl) (by rfl) (by rfl)
          · exact pp_str
          · refine pp_comp (own := [("part", 3)]) rfl nd ?_ (blkC_of (N' := ["region", "inner", "one", "part"]) (sc' := defScope (top 26)) rfl rfl (by decide +kernel)) tg_one rfl (fun _ _ _ _ _ => (pg_name (i := 3) nd rfl (by first | exact Or.inl rfl | exact Or.inr rfl))) (fun _ _ _ _ _ => ?_) (fun _ _ _ _ _ => ?_) (by intro _; rfl)
            · refine qi_seq rfl ?_
              · exact pp_var (pv 0)
            · exact qts_nil
            · refine pp_ty call_strA f_str T.n_str (by decide +kernel) rfl ?_ (by decide) (by decide) (by rfl) (by rfl)
              · refine pq_cons ?_ ?_ (by rfl)
                · exact pp_var (pv 3)
                · exact pq_nil
    · exact ss_nil
  · refine ss_cons ?_ ?_
    · refine st_set (i := 1) nd rfl (.inl rfl) ?_ (by rfl) (by first | exact .inl rfl | exact .inr rfl | assumption)
      · refine pp_join ?_ ?_ (by rfl) (by rfl) (by rfl)
        · exact pp_str
        · refine pp_comp (own := [("one", 2)]) rfl nd ?_ (blkC_of (N' := ["region", "inner", "one", "part"]) (sc' := defScope (top 26)) rfl rfl (by decide +kernel)) tg_one rfl (fun _ _ _ _ _ => (pg_name (i := 2) nd rfl (by first | exact Or.inl rfl | exact Or.inr rfl))) (fun _ _ _ _ _ => ?_) (fun _ _ _ _ _ => ?_) (by intro _; rfl)
          · refine qi_seq rfl ?_
            · refine pc h.f_inner_regions (takes_of rfl rfl rfl rfl) hr rfl ?_ (by rfl) (by decide) (by rfl) (by rfl)
              · refine pq_cons ?_ ?_ (by rfl)
                · exact pp_var (pv 0)
                · exact pq_nil
          · exact qts_nil
          · refine pc h.f_text_of takes0 hr rfl ?_ (by rfl) (by decide) (by rfl) (by rfl)
            · refine pq_cons ?_ ?_ (by rfl)
              · exact pp_var (pv 2)
              · exact pq_nil
    · refine ss_cons ?_ ?_
      · refine st_if ?_ ?_ ?_
        · refine pt_cmp' (op_eqD hr.units) (c_eq rfl).bin ?_ ?_ (nomark _)
          · refine pp_ix rfl ?_ ?_ (by intro _ _; rfl)
            · exact pp_var (pv 0)
            · exact pp_int
          · exact pp_str
        · refine ss_one ?_
          · refine st_ret ?_
            · refine pp_joined ?_
              · refine pj_cons ?_ ?_
                · exact pp_str
                · refine pj_cons ?_ ?_
                  · refine pp_fmt ?_
                    · refine pp_ix rfl ?_ ?_ (by intro _ _; rfl)
                      · exact pp_var (pv 0)
                      · exact pp_int
                  · refine pj_cons ?_ ?_
                    · exact pp_str
                    · refine pj_cons ?_ ?_
                      · refine pp_fmt ?_
                        · refine pp_ix rfl ?_ ?_ (by intro _ _; rfl)
                          · exact pp_var (pv 0)
                          · exact pp_int
                      · refine pj_cons ?_ ?_
                        · exact pp_str
                        · refine pj_cons ?_ ?_
                          · refine pp_fmt ?_
                            · exact pp_var (pv 1)
                          · refine pj_cons ?_ ?_
                            · exact pp_str
                            · exact pj_nil
        · exact ss_nil
      · refine ss_one ?_
        · refine st_ret ?_
          · refine pp_joined ?_
            · refine pj_cons ?_ ?_
              · refine pp_fmt ?_
                · refine pp_ix rfl ?_ ?_ (by intro _ _; rfl)
                  · exact pp_var (pv 0)
                  · exact pp_int
              · refine pj_cons ?_ ?_
                · exact pp_str
                · refine pj_cons ?_ ?_
                  · refine pp_fmt ?_
                    · exact pp_var (pv 1)
                  · refine pj_cons ?_ ?_
                    · exact pp_str
                    · exact pj_nil
include T X0 G0 in
theorem ok_text_of {k : Nat} (h : Lv P w K mg base k) : FnH P w K mg base (k + 1) "text_of" (spP (fx K w) 1 (env (k + 1)).p_text_of) := by
  obtain ⟨fd, FD⟩ := T.sy.d.def_ 10 (d := ⟨("text_of", none), "text_of", "text_of", defArgs (top 26), defBody (top 26), defScope (top 26), [], []⟩) rfl
  exact ⟨_, fd, ["region"], He.glo_ok X0 G0 (T.sy.d.fact 10 (f := .glo "text_of") rfl), FD.kp, FD.bindsN (fun _ _ _ _ _ _ us hl => match us, hl with | [_], _ => rfl), fo_text_of T X0 G0 h FD⟩
theorem sc_write : FnScope ["region"] ["region"] (defScope (top 27)) := ⟨rfl, rfl, rfl, by decide +kernel, rfl, by decide +kernel, by decide +kernel⟩
include T X0 G0 in
theorem fo_write {k : Nat} {fd : FuncData} (h : Lv P w K mg base k) (FD2 : FunD K "write" "write" (defArgs (top 27)) (defBody (top 27)) (defScope (top 27)) [] [] (He.ga K "write") fd) : FnG P w K mg base (L2.CX P w) (k + 1) (He.ga K "write") fd ["region"] (spP (fx K w) 1 (env (k + 1)).p_write) := by
  have e0 : (env (k + 1)).p_write = runB 1 (d_write (env k)) := rfl
  rw [e0]
  have q0 := fn_pure (P := P) (w := w) (mg := mg) (base := base) (k := k) (F := fx K w) (d := d_write (env k)) FD2 sc_write
  refine q0 fun cdv A outer s H E hr => ?_
  have nd := sc_write.nd
  refine ss_cons ?_ ?_
  · refine st_expr ?_ (by rfl)
    · refine pc h.f_check_region (takes_of rfl rfl rfl rfl) hr rfl ?_ (by rfl) (by decide) (by rfl) (by rfl)
      · refine pq_cons ?_ ?_ (by rfl)
        · exact pp_var (pv 0)
        · exact pq_nil
  · refine ss_one ?_
    · refine st_ret ?_
      · refine pc h.f_text_of (takes_of rfl rfl rfl rfl) hr rfl ?_ (by rfl) (by decide) (by rfl) (by rfl)
        · refine pq_cons ?_ ?_ (by rfl)
          · exact pp_var (pv 0)
          · exact pq_nil
include T X0 G0 in
theorem ok_write {k : Nat} (h : Lv P w K mg base k) : FnH P w K mg base (k + 1) "write" (spP (fx K w) 1 (env (k + 1)).p_write) := by
  obtain ⟨fd, FD⟩ := T.sy.d.def_ 11 (d := ⟨("write", none), "write", "write", defArgs (top 27), defBody (top 27), defScope (top 27), [], []⟩) rfl
  exact ⟨_, fd, ["region"], He.glo_ok X0 G0 (T.sy.d.fact 11 (f := .glo "write") rfl), FD.kp, FD.bindsN (fun _ _ _ _ _ _ us hl => match us, hl with | [_], _ => rfl), fo_write T X0 G0 h FD⟩
theorem sc_number_of : FnScope ["word", "bare"] ["word"] (defScope (top 28)) := ⟨rfl, rfl, rfl, by decide +kernel, rfl, by decide +kernel, by decide +kernel⟩
include T X0 G0 in
theorem fo_number_of {k : Nat} {fd : FuncData} (h : Lv P w K mg base k) (FD2 : FunD K "number_of" "number_of" (defArgs (top 28)) (defBody (top 28)) (defScope (top 28)) [] [] (He.ga K "number_of") fd) : FnG P w K mg base (L2.CX P w) (k + 1) (He.ga K "number_of") fd ["word"] (spP (fx K w) 1 (env (k + 1)).p_number_of) := by
  have e0 : (env (k + 1)).p_number_of = runB 2 (d_number_of (env k)) := rfl
  rw [e0]
  have q0 := fn_pure (P := P) (w := w) (mg := mg) (base := base) (k := k) (F := fx K w) (d := d_number_of (env k)) FD2 sc_number_of
  refine q0 fun cdv A outer s H E hr => ?_
  have nd := sc_number_of.nd
  refine ss_cons ?_ ?_
  · refine st_set (i := 1) nd rfl (.inl rfl) ?_ (by rfl) (by first | exact .inl rfl | exact .inr rfl | assumption)
    · refine pp_if ?_ ?_ ?_
      · refine pt_cmp' (op_eqD hr.units) (c_eq rfl).bin ?_ ?_ (nomark _)
        · refine pp_sl rfl ?_ ?_ ?_
          · exact pp_var (pv 0)
          · exact qo_none
          · refine qo_some ?_
            · exact pp_int
        · exact pp_str
      · refine pp_sl rfl ?_ ?_ ?_
        · exact pp_var (pv 0)
        · refine qo_some ?_
          · exact pp_int
        · exact qo_none
      · exact pp_var (pv 0)
  · refine ss_cons ?_ ?_
    · refine st_if ?_ ?_ ?_
      · refine PW.pt ?_
        · refine qw_or ?_ ?_
          · refine pt_cmp' (op_neD hr.units) (c_ne rfl).bin ?_ ?_ (nomark _)
            · refine pp_fun call_lenA (f_len rfl) T.n_len (by decide +kernel) rfl ?_ (by decide) (by decide) (by rfl) (by rfl)
              · refine pq_cons ?_ ?_ (by rfl)
                · exact pp_var (pv 1)
                · exact pq_nil
            · exact pp_int
          · refine qw_or ?_ ?_
            · refine pt_cmp' (op_notInA hr.u65) (c_notIn rfl).bin ?_ ?_ rfl
              · exact pp_var (pv 1)
              · exact pp_gstr T.g_FIGURES rfl (by decide)
            · refine qw_or1 ?_
              · refine pt_cmp' (op_eqD hr.units) (c_eq rfl).bin ?_ ?_ (nomark _)
                · exact pp_var (pv 0)
                · exact pp_str
      · refine ss_one ?_
        · refine st_ret ?_
          · exact pp_non
      · exact ss_nil
    · refine ss_one ?_
      · refine st_ret ?_
        · refine pp_ty call_intA f_intA T.n_int (by decide +kernel) rfl ?_ (by decide) (by decide) (by rfl) (by rfl)
          · refine pq_cons ?_ ?_ (by rfl)
            · exact pp_var (pv 0)
            · exact pq_nil
include T X0 G0 in
theorem ok_number_of {k : Nat} (h : Lv P w K mg base k) : FnH P w K mg base (k + 1) "number_of" (spP (fx K w) 1 (env (k + 1)).p_number_of) := by
  obtain ⟨fd, FD⟩ := T.sy.d.def_ 12 (d := ⟨("number_of", none), "number_of", "number_of", defArgs (top 28), defBody (top 28), defScope (top 28), [], []⟩) rfl
  exact ⟨_, fd, ["word"], He.glo_ok X0 G0 (T.sy.d.fact 12 (f := .glo "number_of") rfl), FD.kp, FD.bindsN (fun _ _ _ _ _ _ us hl => match us, hl with | [_], _ => rfl), fo_number_of T X0 G0 h FD⟩
theorem sc_numbers_of : FnScope ["words", "found", "word"] ["words"] (defScope (top 29)) := ⟨rfl, rfl, rfl, by decide +kernel, rfl, by decide +kernel, by decide +kernel⟩
include T X0 G0 in
theorem fo_numbers_of {k : Nat} {fd : FuncData} (h : Lv P w K mg base k) (FD2 : FunD K "numbers_of" "numbers_of" (defArgs (top 29)) (defBody (top 29)) (defScope (top 29)) [] [] (He.ga K "numbers_of") fd) : FnG P w K mg base (L2.CX P w) (k + 1) (He.ga K "numbers_of") fd ["words"] (spP (fx K w) 1 (env (k + 1)).p_numbers_of) := by
  have e0 : (env (k + 1)).p_numbers_of = runB 3 (d_numbers_of (env k)) := rfl
  rw [e0]
  have q0 := fn_pure (P := P) (w := w) (mg := mg) (base := base) (k := k) (F := fx K w) (d := d_numbers_of (env k)) FD2 sc_numbers_of
  refine q0 fun cdv A outer s H E hr => ?_
  have nd := sc_numbers_of.nd
  refine ss_cons ?_ ?_
  · refine st_setComp (i := 1) (own := [("word", 2)]) rfl nd rfl rfl (sw_true rfl rfl rfl (by decide +kernel)) ?_ (blkC_of (N' := ["words", "found", "word"]) (sc' := defScope (top 29)) rfl rfl (by decide +kernel)) tg_one rfl (fun _ _ _ _ _ => (pg_name (i := 2) nd rfl (by first | exact Or.inl rfl | exact Or.inr rfl))) (fun _ _ _ _ _ => ?_) (fun _ _ _ _ _ => ?_) (by intro _; rfl)
    · refine qi_seq rfl ?_
      · exact pp_var (pv 0)
    · exact qts_nil
    · refine pc h.f_number_of takes0 hr rfl ?_ (by rfl) (by decide) (by rfl) (by rfl)
      · refine pq_cons ?_ ?_ (by rfl)
        · exact pp_var (pv 2)
        · exact pq_nil
  · refine ss_one ?_
    · refine st_ret ?_
      · refine pp_if ?_ ?_ ?_
        · refine pt_cmp' (op_inA hr.u65) (c_in rfl).bin ?_ ?_ rfl
          · exact pp_non
          · exact pp_var (pv 1)
        · exact pp_non
        · exact pp_var (pv 1)
include T X0 G0 in
theorem ok_numbers_of {k : Nat} (h : Lv P w K mg base k) : FnH P w K mg base (k + 1) "numbers_of" (spP (fx K w) 1 (env (k + 1)).p_numbers_of) := by
  obtain ⟨fd, FD⟩ := T.sy.d.def_ 13 (d := ⟨("numbers_of", none), "numbers_of", "numbers_of", defArgs (top 29), defBody (top 29), defScope (top 29), [], []⟩) rfl
  exact ⟨_, fd, ["words"], He.glo_ok X0 G0 (T.sy.d.fact 13 (f := .glo "numbers_of") rfl), FD.kp, FD.bindsN (fun _ _ _ _ _ _ us hl => match us, hl with | [_], _ => rfl), fo_numbers_of T X0 G0 h FD⟩
theorem sc_cut : FnScope ["text", "found", "deep", "at", "sign"] ["text"] (defScope (top 30)) := ⟨rfl, rfl, rfl, by decide +kernel, rfl, by decide +kernel, by decide +kernel⟩
include T X0 G0 in
theorem fo_cut {k : Nat} {fd : FuncData} (h : Lv P w K mg base k) (FD2 : FunD K "cut" "cut" (defArgs (top 30)) (defBody (top 30)) (defScope (top 30)) [] [] (He.ga K "cut") fd) : FnG P w K mg base (L2.CX P w) (k + 1) (He.ga K "cut") fd ["text"] (spP (fx K w) 1 (env (k + 1)).p_cut) := by
  have e0 : (env (k + 1)).p_cut = runB 5 (d_cut (env k)) := rfl
  rw [e0]
  have q0 := fn_pure (P := P) (w := w) (mg := mg) (base := base) (k := k) (F := fx K w) (d := d_cut (env k)) FD2 sc_cut
  refine q0 fun cdv A outer s H E hr => ?_
  have nd := sc_cut.nd
  refine ss_cons ?_ ?_
  · refine st_newL (i := 1) nd rfl (.inl rfl) ?_ (by rfl) (by first | exact .inl rfl | exact .inr rfl | assumption)
    · refine pq_cons ?_ ?_ (by rfl)
      · exact pp_str
      · exact pq_nil
  · refine ss_cons ?_ ?_
    · refine st_set (i := 2) nd rfl (.inl rfl) ?_ (by rfl) (by first | exact .inl rfl | exact .inr rfl | assumption)
      · exact pp_int
    · refine ss_cons ?_ ?_
      · refine st_set (i := 3) nd rfl (.inl rfl) ?_ (by rfl) (by first | exact .inl rfl | exact .inr rfl | assumption)
        · exact pp_int
      · refine ss_cons ?_ ?_
        · refine st_while 1000000 (passes_of rfl) ?_ ?_
          · refine pt_cmp' op_lt c_lt.bin ?_ ?_ (nomark _)
            · exact pp_var (pv 3)
            · refine pp_fun call_lenA (f_len rfl) T.n_len (by decide +kernel) rfl ?_ (by decide) (by decide) (by rfl) (by rfl)
              · refine pq_cons ?_ ?_ (by rfl)
                · exact pp_var (pv 0)
                · exact pq_nil
          · refine ss_cons ?_ ?_
            · refine st_set (i := 4) nd rfl (.inl rfl) ?_ (by rfl) (by first | exact .inl rfl | exact .inr rfl | assumption)
              · refine pp_ix rfl ?_ ?_ (by intro _ _; rfl)
                · exact pp_var (pv 0)
                · exact pp_var (pv 3)
            · refine ss_cons ?_ ?_
              · refine st_aug (i := 2) nd rfl (.inl rfl) ?_ ip_add ip_addN (by first | exact .inl rfl | exact .inr rfl | assumption)
                · refine pp_pget (ds := [("(", (dC (.int 1))), (")", (dC (.int (-1))))]) hr.hu ?_ rfl rfl (by decide) (by decide) (by decide) (by decide +kernel) ?_ ?_ ⟨rfl, rfl, rfl, rfl⟩
                  · refine pps_cons pe_str ?_ ?_
                    · exact pp_int
                    · refine pps_cons pe_str ?_ ?_
                      · exact pp_nint
                      · exact pps_nil
                  · exact pp_var (pv 4)
                  · exact pp_int
              · refine ss_cons ?_ ?_
                · refine st_if ?_ ?_ ?_
                  · refine pt_cmp' op_lt c_lt.bin ?_ ?_ (nomark _)
                    · exact pp_var (pv 2)
                    · exact pp_int
                  · refine ss_one ?_
                    · refine st_ret ?_
                      · exact pp_non
                  · exact ss_nil
                · refine ss_one ?_
                  · refine st_if ?_ ?_ ?_
                    · refine PW.pt ?_
                      · refine qw_and ?_ ?_
                        · refine pt_cmp' (op_eqD hr.units) (c_eq rfl).bin ?_ ?_ (nomark _)
                          · exact pp_var (pv 2)
                          · exact pp_int
                        · refine qw_and1 ?_
                          · refine pt_cmp' (op_eqD hr.units) (c_eq rfl).bin ?_ ?_ (nomark _)
                            · refine pp_sl rfl ?_ ?_ ?_
                              · exact pp_var (pv 0)
                              · refine qo_some ?_
                                · exact pp_var (pv 3)
                              · refine qo_some ?_
                                · refine pp_op op_addA (b_add rfl) ?_ ?_
                                  · exact pp_var (pv 3)
                                  · exact pp_int
                            · exact pp_str
                    · refine ss_cons ?_ ?_
                      · refine st_app (pv 1) ?_ (by rfl) (by rfl) (by rfl) (by rfl) (by rfl) (by rfl)
                        · exact pp_str
                      · refine ss_one ?_
                        · refine st_aug (i := 3) nd rfl (.inl rfl) ?_ ip_add ip_addN (by first | exact .inl rfl | exact .inr rfl | assumption)
                          · exact pp_int
                    · refine ss_cons ?_ ?_
                      · refine st_put (pv 1) ?_ ?_ (by rfl) (by rfl) (by rfl) (by intro _; rfl)
                        · refine pp_op op_addA (b_add rfl) ?_ ?_
                          · refine pp_ixA rfl (pv 1) ?_ (by intro _ _; rfl)
                            · refine pp_un un_neg u_neg ?_
                              · exact pp_int
                          · exact pp_var (pv 4)
                        · refine pp_un un_neg u_neg ?_
                          · exact pp_int
                      · refine ss_one ?_
                        · refine st_aug (i := 3) nd rfl (.inl rfl) ?_ ip_add ip_addN (by first | exact .inl rfl | exact .inr rfl | assumption)
                          · exact pp_int
        · refine ss_one ?_
          · refine st_ret ?_
            · refine pp_if ?_ ?_ ?_
              · refine pt_cmp' (op_eqD hr.units) (c_eq rfl).bin ?_ ?_ (nomark _)
                · exact pp_var (pv 2)
                · exact pp_int
              · exact pp_rd (pv 1)
              · exact pp_non
include T X0 G0 in
theorem ok_cut {k : Nat} (h : Lv P w K mg base k) : FnH P w K mg base (k + 1) "cut" (spP (fx K w) 1 (env (k + 1)).p_cut) := by
  obtain ⟨fd, FD⟩ := T.sy.d.def_ 14 (d := ⟨("cut", none), "cut", "cut", defArgs (top 30), defBody (top 30), defScope (top 30), [], []⟩) rfl
  exact ⟨_, fd, ["text"], He.glo_ok X0 G0 (T.sy.d.fact 14 (f := .glo "cut") rfl), FD.kp, FD.bindsN (fun _ _ _ _ _ _ us hl => match us, hl with | [_], _ => rfl), fo_cut T X0 G0 h FD⟩
theorem sc_plain_in : FnScope ["text", "names", "words", "numbers"] ["text", "names"] (defScope (top 31)) := ⟨rfl, rfl, rfl, by decide +kernel, rfl, by decide +kernel, by decide +kernel⟩
include T X0 G0 in
theorem fo_plain_in {k : Nat} {fd : FuncData} (h : Lv P w K mg base k) (FD2 : FunD K "plain_in" "plain_in" (defArgs (top 31)) (defBody (top 31)) (defScope (top 31)) [] [] (He.ga K "plain_in") fd) : FnG P w K mg base (L2.CX P w) (k + 1) (He.ga K "plain_in") fd ["text", "names"] (spP (fx K w) 2 (env (k + 1)).p_plain_in) := by
  have e0 : (env (k + 1)).p_plain_in = runB 4 (d_plain_in (env k)) := rfl
  rw [e0]
  have q0 := fn_pure (P := P) (w := w) (mg := mg) (base := base) (k := k) (F := fx K w) (d := d_plain_in (env k)) FD2 sc_plain_in
  refine q0 fun cdv A outer s H E hr => ?_
  have nd := sc_plain_in.nd
  refine ss_cons ?_ ?_
  · refine st_set (i := 2) nd rfl (.inl rfl) ?_ (by rfl) (by first | exact .inl rfl | exact .inr rfl | assumption)
    · refine pp_split ?_ ?_ (by rfl) (by rfl) (by rfl)
      · exact pp_var (pv 0)
      · exact pp_str
  · refine ss_cons ?_ ?_
    · refine st_if ?_ ?_ ?_
      · refine pt_inT rfl rfl T.k_PLAIN T.g_PLAIN rfl ?_ (by decide)
        · refine pp_ix rfl ?_ ?_ (by intro _ _; rfl)
          · exact pp_var (pv 2)
          · exact pp_int
      · refine ss_cons ?_ ?_
        · refine st_set (i := 3) nd rfl (.inl rfl) ?_ (by rfl) (by first | exact .inl rfl | exact .inr rfl | assumption)
          · refine pc h.f_numbers_of (takes_of rfl rfl rfl rfl) hr rfl ?_ (by rfl) (by decide) (by rfl) (by rfl)
            · refine pq_cons ?_ ?_ (by rfl)
              · refine pp_sl rfl ?_ ?_ ?_
                · exact pp_var (pv 2)
                · refine qo_some ?_
                  · exact pp_int
                · exact qo_none
              · exact pq_nil
        · refine ss_one ?_
          · refine st_ret ?_
            · refine pp_if ?_ ?_ ?_
              · refine pt_cmp' op_isN c_isN.bin ?_ ?_ (nomark _)
                · exact pp_var (pv 3)
                · exact pp_non
              · exact pp_non
              · refine pp_op op_addA (b_add rfl) ?_ ?_
                · refine pp_tup ?_
                  · refine pq_cons ?_ ?_ (by rfl)
                    · refine pp_ix rfl ?_ ?_ (by intro _ _; rfl)
                      · exact pp_var (pv 2)
                      · exact pp_int
                    · exact pq_nil
                · refine pp_ty call_tuple_of (f_tuple rfl) T.n_tuple (by decide +kernel) rfl ?_ (by decide) (by decide) (by rfl) (by rfl)
                  · refine pq_cons ?_ ?_ (by rfl)
                    · exact pp_var (pv 3)
                    · exact pq_nil
      · exact ss_nil
    · refine ss_one ?_
      · refine st_ret ?_
        · refine pp_get1 hr.hu ?_ ?_ ⟨rfl, rfl, rfl, rfl⟩
          · exact pp_var (pv 1)
          · exact pp_var (pv 0)
include T X0 G0 in
theorem ok_plain_in {k : Nat} (h : Lv P w K mg base k) : FnH P w K mg base (k + 1) "plain_in" (spP (fx K w) 2 (env (k + 1)).p_plain_in) := by
  obtain ⟨fd, FD⟩ := T.sy.d.def_ 15 (d := ⟨("plain_in", none), "plain_in", "plain_in", defArgs (top 31), defBody (top 31), defScope (top 31), [], []⟩) rfl
  exact ⟨_, fd, ["text", "names"], He.glo_ok X0 G0 (T.sy.d.fact 15 (f := .glo "plain_in") rfl), FD.kp, FD.bindsN (fun _ _ _ _ _ _ us hl => match us, hl with | [_, _], _ => rfl), fo_plain_in T X0 G0 h FD⟩
theorem sc_moved_in : FnScope ["parts", "names", "numbers", "inner"] ["parts", "names"] (defScope (top 32)) := ⟨rfl, rfl, rfl, by decide +kernel, rfl, by decide +kernel, by decide +kernel⟩
include T X0 G0 in
theorem fo_moved_in {k : Nat} {fd : FuncData} (h : Lv P w K mg base k) (FD2 : FunD K "moved_in" "moved_in" (defArgs (top 32)) (defBody (top 32)) (defScope (top 32)) [] [] (He.ga K "moved_in") fd) : FnG P w K mg base (L2.CX P w) (k + 1) (He.ga K "moved_in") fd ["parts", "names"] (spP (fx K w) 2 (env (k + 1)).p_moved_in) := by
  have e0 : (env (k + 1)).p_moved_in = runB 4 (d_moved_in (env k)) := rfl
  rw [e0]
  have q0 := fn_pure (P := P) (w := w) (mg := mg) (base := base) (k := k) (F := fx K w) (d := d_moved_in (env k)) FD2 sc_moved_in
  refine q0 fun cdv A outer s H E hr => ?_
  have nd := sc_moved_in.nd
  refine ss_cons ?_ ?_
  · refine st_set (i := 2) nd rfl (.inl rfl) ?_ (by rfl) (by first | exact .inl rfl | exact .inr rfl | assumption)
    · refine pc h.f_numbers_of (takes_of rfl rfl rfl rfl) hr rfl ?_ (by rfl) (by decide) (by rfl) (by rfl)
      · refine pq_cons ?_ ?_ (by rfl)
        · refine pp_split ?_ ?_ (by rfl) (by rfl) (by rfl)
          · refine pp_ix rfl ?_ ?_ (by intro _ _; rfl)
            · exact pp_var (pv 0)
            · exact pp_int
          · exact pp_str
        · exact pq_nil
  · refine ss_cons ?_ ?_
    · refine st_set (i := 3) nd rfl (.inl rfl) ?_ (by rfl) (by first | exact .inl rfl | exact .inr rfl | assumption)
      · refine pp_if ?_ ?_ ?_
        · refine pt_cmp' (op_eqD hr.units) (c_eq rfl).bin ?_ ?_ (nomark _)
          · refine pp_fun call_lenA (f_len rfl) T.n_len (by decide +kernel) rfl ?_ (by decide) (by decide) (by rfl) (by rfl)
            · refine pq_cons ?_ ?_ (by rfl)
              · exact pp_var (pv 0)
              · exact pq_nil
          · exact pp_int
        · refine pc h.f_region_in (takes_of rfl rfl rfl rfl) hr rfl ?_ (by rfl) (by decide) (by rfl) (by rfl)
          · refine pq_cons ?_ ?_ (by rfl)
            · refine pp_ix rfl ?_ ?_ (by intro _ _; rfl)
              · exact pp_var (pv 0)
              · exact pp_int
            · refine pq_cons ?_ ?_ (by rfl)
              · exact pp_var (pv 1)
              · exact pq_nil
        · exact pp_non
    · refine ss_cons ?_ ?_
      · refine st_if ?_ ?_ ?_
        · refine PW.pt ?_
          · refine qw_or ?_ ?_
            · refine pt_cmp' op_isN c_isN.bin ?_ ?_ (nomark _)
              · exact pp_var (pv 2)
              · exact pp_non
            · refine qw_or ?_ ?_
              · refine pt_cmp' (op_neD hr.units) (c_ne rfl).bin ?_ ?_ (nomark _)
                · refine pp_fun call_lenA (f_len rfl) T.n_len (by decide +kernel) rfl ?_ (by decide) (by decide) (by rfl) (by rfl)
                  · refine pq_cons ?_ ?_ (by rfl)
                    · exact pp_var (pv 2)
                    · exact pq_nil
                · exact pp_int
              · refine qw_or1 ?_
                · refine pt_cmp' op_isN c_isN.bin ?_ ?_ (nomark _)
                  · exact pp_var (pv 3)
                  · exact pp_non
        · refine ss_one ?_
          · refine st_ret ?_
            · exact pp_non
        · exact ss_nil
      · refine ss_one ?_
        · refine st_ret ?_
          · refine pp_tup ?_
            · refine pq_cons ?_ ?_ (by rfl)
              · exact pp_str
              · refine pq_cons ?_ ?_ (by rfl)
                · refine pp_ix rfl ?_ ?_ (by intro _ _; rfl)
                  · exact pp_var (pv 2)
                  · exact pp_int
                · refine pq_cons ?_ ?_ (by rfl)
                  · refine pp_ix rfl ?_ ?_ (by intro _ _; rfl)
                    · exact pp_var (pv 2)
                    · exact pp_int
                  · refine pq_cons ?_ ?_ (by rfl)
                    · exact pp_var (pv 3)
                    · exact pq_nil
include T X0 G0 in
theorem ok_moved_in {k : Nat} (h : Lv P w K mg base k) : FnH P w K mg base (k + 1) "moved_in" (spP (fx K w) 2 (env (k + 1)).p_moved_in) := by
  obtain ⟨fd, FD⟩ := T.sy.d.def_ 16 (d := ⟨("moved_in", none), "moved_in", "moved_in", defArgs (top 32), defBody (top 32), defScope (top 32), [], []⟩) rfl
  exact ⟨_, fd, ["parts", "names"], He.glo_ok X0 G0 (T.sy.d.fact 16 (f := .glo "moved_in") rfl), FD.kp, FD.bindsN (fun _ _ _ _ _ _ us hl => match us, hl with | [_, _], _ => rfl), fo_moved_in T X0 G0 h FD⟩
theorem sc_region_in : FnScope ["text", "names", "word", "parts", "inner", "part"] ["text", "names"] (defScope (top 33)) := ⟨rfl, rfl, rfl, by decide +kernel, rfl, by decide +kernel, by decide +kernel⟩
include T X0 G0 in
theorem fo_region_in {k : Nat} {fd : FuncData} (h : Lv P w K mg base k) (FD2 : FunD K "region_in" "region_in" (defArgs (top 33)) (defBody (top 33)) (defScope (top 33)) [] [] (He.ga K "region_in") fd) : FnG P w K mg base (L2.CX P w) (k + 1) (He.ga K "region_in") fd ["text", "names"] (spP (fx K w) 2 (env (k + 1)).p_region_in) := by
  have e0 : (env (k + 1)).p_region_in = runB 6 (d_region_in (env k)) := rfl
  rw [e0]
  have q0 := fn_pure (P := P) (w := w) (mg := mg) (base := base) (k := k) (F := fx K w) (d := d_region_in (env k)) FD2 sc_region_in
  refine q0 fun cdv A outer s H E hr => ?_
  have nd := sc_region_in.nd
  refine ss_cons ?_ ?_
  · refine st_set (i := 2) nd rfl (.inl rfl) ?_ (by rfl) (by first | exact .inl rfl | exact .inr rfl | assumption)
    · refine pp_ix rfl ?_ ?_ (by intro _ _; rfl)
      · refine pp_split ?_ ?_ (by rfl) (by rfl) (by rfl)
        · exact pp_var (pv 0)
        · exact pp_str
      · exact pp_int
  · refine ss_cons ?_ ?_
    · refine st_if ?_ ?_ ?_
      · refine pt_cmp' (op_notInA hr.u65) (c_notIn rfl).bin ?_ ?_ rfl
        · exact pp_str
        · exact pp_var (pv 0)
      · refine ss_one ?_
        · refine st_ret ?_
          · refine pc h.f_plain_in (takes_of rfl rfl rfl rfl) hr rfl ?_ (by rfl) (by decide) (by rfl) (by rfl)
            · refine pq_cons ?_ ?_ (by rfl)
              · exact pp_var (pv 0)
              · refine pq_cons ?_ ?_ (by rfl)
                · exact pp_var (pv 1)
                · exact pq_nil
      · exact ss_nil
    · refine ss_cons ?_ ?_
      · refine st_set (i := 3) nd rfl (.inl rfl) ?_ (by rfl) (by first | exact .inl rfl | exact .inr rfl | assumption)
        · refine pp_if ?_ ?_ ?_
          · refine pt_cmp' (op_eqD hr.units) (c_eq rfl).bin ?_ ?_ (nomark _)
            · refine pp_ix rfl ?_ ?_ (by intro _ _; rfl)
              · exact pp_var (pv 0)
              · refine pp_un un_neg u_neg ?_
                · exact pp_int
            · exact pp_str
          · refine pc h.f_cut (takes_of rfl rfl rfl rfl) hr rfl ?_ (by rfl) (by decide) (by rfl) (by rfl)
            · refine pq_cons ?_ ?_ (by rfl)
              · refine pp_sl rfl ?_ ?_ ?_
                · exact pp_var (pv 0)
                · refine qo_some ?_
                  · refine pp_op op_addA (b_add rfl) ?_ ?_
                    · refine pp_fun call_lenA (f_len rfl) T.n_len (by decide +kernel) rfl ?_ (by decide) (by decide) (by rfl) (by rfl)
                      · refine pq_cons ?_ ?_ (by rfl)
                        · exact pp_var (pv 2)
                        · exact pq_nil
                    · exact pp_int
                · refine qo_some ?_
                  · refine pp_un un_neg u_neg ?_
                    · exact pp_int
              · exact pq_nil
          · exact pp_non
      · refine ss_cons ?_ ?_
        · refine st_if ?_ ?_ ?_
          · refine pt_cmp' op_isN c_isN.bin ?_ ?_ (nomark _)
            · exact pp_var (pv 3)
            · exact pp_non
          · refine ss_one ?_
            · refine st_ret ?_
              · exact pp_non
          · exact ss_nil
        · refine ss_cons ?_ ?_
          · refine st_if ?_ ?_ ?_
            · refine pt_cmp' (op_eqD hr.units) (c_eq rfl).bin ?_ ?_ (nomark _)
              · exact pp_var (pv 2)
              · exact pp_str
            · refine ss_one ?_
              · refine st_ret ?_
                · refine pc h.f_moved_in (takes_of rfl rfl rfl rfl) hr rfl ?_ (by rfl) (by decide) (by rfl) (by rfl)
                  · refine pq_cons ?_ ?_ (by rfl)
                    · exact pp_var (pv 3)
                    · refine pq_cons ?_ ?_ (by rfl)
                      · exact pp_var (pv 1)
                      · exact pq_nil
            · exact ss_nil
          · refine ss_cons ?_ ?_
            · refine st_if ?_ ?_ ?_
              · refine PW.pt ?_
                · refine qw_or ?_ ?_
                  · refine pt_notInT rfl rfl T.k_INNER T.g_INNER rfl ?_ (by decide)
                    · exact pp_var (pv 2)
                  · refine qw_or1 ?_
                    · refine pt_cmp' (op_neD hr.units) (c_ne rfl).bin ?_ ?_ (nomark _)
                      · refine pp_fun call_lenA (f_len rfl) T.n_len (by decide +kernel) rfl ?_ (by decide) (by decide) (by rfl) (by rfl)
                        · refine pq_cons ?_ ?_ (by rfl)
                          · exact pp_var (pv 3)
                          · exact pq_nil
                      · refine pp_getT rfl rfl T.k_INNER T.g_INNER rfl ?_ (fun _ _ => rfl) (by decide)
                        · exact pp_var (pv 2)
              · refine ss_one ?_
                · refine st_ret ?_
                  · exact pp_non
              · exact ss_nil
            · refine ss_cons ?_ ?_
              · refine st_setComp (i := 4) (own := [("part", 5)]) rfl nd rfl rfl (sw_true rfl rfl rfl (by decide +kernel)) ?_ (blkC_of (N' := ["text", "names", "word", "parts", "inner", "part"]) (sc' := defScope (top 33)) rfl rfl (by decide +kernel)) tg_one rfl (fun _ _ _ _ _ => (pg_name (i := 5) nd rfl (by first | exact Or.inl rfl | exact Or.inr rfl))) (fun _ _ _ _ _ => ?_) (fun _ _ _ _ _ => ?_) (by intro _; rfl)
                · refine qi_seq rfl ?_
                  · exact pp_var (pv 3)
                · exact qts_nil
                · refine pc h.f_region_in takes0 hr rfl ?_ (by rfl) (by decide) (by rfl) (by rfl)
                  · refine pq_cons ?_ ?_ (by rfl)
                    · exact pp_var (pv 5)
                    · refine pq_cons ?_ ?_ (by rfl)
                      · exact pp_var (pv 1)
                      · exact pq_nil
              · refine ss_one ?_
                · refine st_ret ?_
                  · refine pp_if ?_ ?_ ?_
                    · refine pt_cmp' (op_inA hr.u65) (c_in rfl).bin ?_ ?_ rfl
                      · exact pp_non
                      · exact pp_var (pv 4)
                    · exact pp_non
                    · refine pp_op op_addA (b_add rfl) ?_ ?_
                      · refine pp_tup ?_
                        · refine pq_cons ?_ ?_ (by rfl)
                          · exact pp_var (pv 2)
                          · exact pq_nil
                      · refine pp_ty call_tuple_of (f_tuple rfl) T.n_tuple (by decide +kernel) rfl ?_ (by decide) (by decide) (by rfl) (by rfl)
                        · refine pq_cons ?_ ?_ (by rfl)
                          · exact pp_var (pv 4)
                          · exact pq_nil
include T X0 G0 in
theorem ok_region_in {k : Nat} (h : Lv P w K mg base k) : FnH P w K mg base (k + 1) "region_in" (spP (fx K w) 2 (env (k + 1)).p_region_in) := by
  obtain ⟨fd, FD⟩ := T.sy.d.def_ 17 (d := ⟨("region_in", none), "region_in", "region_in", defArgs (top 33), defBody (top 33), defScope (top 33), [], []⟩) rfl
  exact ⟨_, fd, ["text", "names"], He.glo_ok X0 G0 (T.sy.d.fact 17 (f := .glo "region_in") rfl), FD.kp, FD.bindsN (fun _ _ _ _ _ _ us hl => match us, hl with | [_, _], _ => rfl), fo_region_in T X0 G0 h FD⟩
theorem sc_brackets : FnScope ["text", "found", "deep", "sign"] ["text"] (defScope (top 34)) := ⟨rfl, rfl, rfl, by decide +kernel, rfl, by decide +kernel, by decide +kernel⟩
include T X0 G0 in
theorem fo_brackets {k : Nat} {fd : FuncData} (h : Lv P w K mg base k) (FD2 : FunD K "brackets" "brackets" (defArgs (top 34)) (defBody (top 34)) (defScope (top 34)) [] [] (He.ga K "brackets") fd) : FnG P w K mg base (L2.CX P w) (k + 1) (He.ga K "brackets") fd ["text"] (spP (fx K w) 1 (env (k + 1)).p_brackets) := by
  have e0 : (env (k + 1)).p_brackets = runB 4 (d_brackets (env k)) := rfl
  rw [e0]
  have q0 := fn_pure (P := P) (w := w) (mg := mg) (base := base) (k := k) (F := fx K w) (d := d_brackets (env k)) FD2 sc_brackets
  refine q0 fun cdv A outer s H E hr => ?_
  have nd := sc_brackets.nd
  refine ss_cons ?_ ?_
  · refine st_asg ?_ (pg_tup rfl (pgs_cons (pg_name (i := 1) nd rfl (by first | exact Or.inl rfl | exact Or.inr rfl)) (pgs_cons (pg_name (i := 2) nd rfl (by first | exact Or.inl rfl | exact Or.inr rfl)) pgs_nil))) (tg_tup rfl (tgs_cons (tgs_cons tgs_nil)) rfl) (by rfl) (by rfl) (by rfl)
    · refine pp_tup ?_
      · refine pq_cons ?_ ?_ (by rfl)
        · exact pp_int
        · refine pq_cons ?_ ?_ (by rfl)
          · exact pp_int
          · exact pq_nil
  · refine ss_cons ?_ ?_
    · refine st_for (passes_of rfl) rfl ?_ (pg_name (i := 3) nd rfl (by first | exact Or.inl rfl | exact Or.inr rfl)) tg_one ?_ (by intro _; rfl)
      · refine qi_seq rfl ?_
        · exact pp_var (pv 0)
      · refine ss_cons ?_ ?_
        · refine st_aug (i := 2) nd rfl (.inl rfl) ?_ ip_add ip_addN (by first | exact .inl rfl | exact .inr rfl | assumption)
          · refine pp_pget (ds := [("(", (dC (.int 1))), (")", (dC (.int (-1))))]) hr.hu ?_ rfl rfl (by decide) (by decide) (by decide) (by decide +kernel) ?_ ?_ ⟨rfl, rfl, rfl, rfl⟩
            · refine pps_cons pe_str ?_ ?_
              · exact pp_int
              · refine pps_cons pe_str ?_ ?_
                · exact pp_nint
                · exact pps_nil
            · exact pp_var (pv 3)
            · exact pp_int
        · refine ss_one ?_
          · refine st_set (i := 1) nd rfl (.inl rfl) ?_ (by rfl) (by first | exact .inl rfl | exact .inr rfl | assumption)
            · refine pp_fun (call_max2 rfl) f_max2 T.n_max (by decide +kernel) rfl ?_ (by decide) (by decide) (by rfl) (by rfl)
              · refine pq_cons ?_ ?_ (by rfl)
                · exact pp_var (pv 1)
                · refine pq_cons ?_ ?_ (by rfl)
                  · exact pp_var (pv 2)
                  · exact pq_nil
    · refine ss_one ?_
      · refine st_ret ?_
        · exact pp_var (pv 1)
include T X0 G0 in
theorem ok_brackets {k : Nat} (h : Lv P w K mg base k) : FnH P w K mg base (k + 1) "brackets" (spP (fx K w) 1 (env (k + 1)).p_brackets) := by
  obtain ⟨fd, FD⟩ := T.sy.d.def_ 18 (d := ⟨("brackets", none), "brackets", "brackets", defArgs (top 34), defBody (top 34), defScope (top 34), [], []⟩) rfl
  exact ⟨_, fd, ["text"], He.glo_ok X0 G0 (T.sy.d.fact 18 (f := .glo "brackets") rfl), FD.kp, FD.bindsN (fun _ _ _ _ _ _ us hl => match us, hl with | [_], _ => rfl), fo_brackets T X0 G0 h FD⟩
theorem sc_good_region : FnScope ["text", "names", "found"] ["text", "names"] (defScope (top 35)) := ⟨rfl, rfl, rfl, by decide +kernel, rfl, by decide +kernel, by decide +kernel⟩
include T X0 G0 in
theorem fo_good_region {k : Nat} {fd : FuncData} (h : Lv P w K mg base k) (FD2 : FunD K "good_region" "good_region" (defArgs (top 35)) (defBody (top 35)) (defScope (top 35)) [] [] (He.ga K "good_region") fd) : FnG P w K mg base (L2.CX P w) (k + 1) (He.ga K "good_region") fd ["text", "names"] (spP (fx K w) 2 (env (k + 1)).p_good_region) := by
  have e0 : (env (k + 1)).p_good_region = runB 3 (d_good_region (env k)) := rfl
  rw [e0]
  have q0 := fn_pure (P := P) (w := w) (mg := mg) (base := base) (k := k) (F := fx K w) (d := d_good_region (env k)) FD2 sc_good_region
  refine q0 fun cdv A outer s H E hr => ?_
  have nd := sc_good_region.nd
  refine ss_cons ?_ ?_
  · refine st_set (i := 2) nd rfl (.inl rfl) ?_ (by rfl) (by first | exact .inl rfl | exact .inr rfl | assumption)
    · refine pp_if ?_ ?_ ?_
      · refine PW.pt ?_
        · refine qw_and ?_ ?_
          · refine pt_tru rfl ?_ (by intro _; rfl)
            · exact pp_var (pv 0)
          · refine qw_and1 ?_
            · refine pt_cmp' op_le c_le.bin ?_ ?_ (nomark _)
              · refine pc h.f_brackets (takes_of rfl rfl rfl rfl) hr rfl ?_ (by rfl) (by decide) (by rfl) (by rfl)
                · refine pq_cons ?_ ?_ (by rfl)
                  · exact pp_var (pv 0)
                  · exact pq_nil
              · exact pp_gint T.g_MOST_DEEP rfl (by decide)
      · refine pc h.f_region_in (takes_of rfl rfl rfl rfl) hr rfl ?_ (by rfl) (by decide) (by rfl) (by rfl)
        · refine pq_cons ?_ ?_ (by rfl)
          · exact pp_var (pv 0)
          · refine pq_cons ?_ ?_ (by rfl)
            · exact pp_var (pv 1)
            · exact pq_nil
      · exact pp_non
  · refine ss_one ?_
    · refine st_ret ?_
      · refine pp_if ?_ ?_ ?_
        · refine PW.pt ?_
          · refine qw_and ?_ ?_
            · refine pt_cmp' op_notN c_notN.bin ?_ ?_ (nomark _)
              · exact pp_var (pv 2)
              · exact pp_non
            · refine qw_and1 ?_
              · refine pt_tru rfl ?_ (by intro _; rfl)
                · refine pc h.f_is_region (takes_of rfl rfl rfl rfl) hr rfl ?_ (by rfl) (by decide) (by rfl) (by rfl)
                  · refine pq_cons ?_ ?_ (by rfl)
                    · exact pp_var (pv 2)
                    · exact pq_nil
        · exact pp_var (pv 2)
        · exact pp_non
include T X0 G0 in
theorem ok_good_region {k : Nat} (h : Lv P w K mg base k) : FnH P w K mg base (k + 1) "good_region" (spP (fx K w) 2 (env (k + 1)).p_good_region) := by
  obtain ⟨fd, FD⟩ := T.sy.d.def_ 19 (d := ⟨("good_region", none), "good_region", "good_region", defArgs (top 35), defBody (top 35), defScope (top 35), [], []⟩) rfl
  exact ⟨_, fd, ["text", "names"], He.glo_ok X0 G0 (T.sy.d.fact 19 (f := .glo "good_region") rfl), FD.kp, FD.bindsN (fun _ _ _ _ _ _ us hl => match us, hl with | [_, _], _ => rfl), fo_good_region T X0 G0 h FD⟩
theorem sc_read : FnScope ["text", "found"] ["text"] (defScope (top 36)) := ⟨rfl, rfl, rfl, by decide +kernel, rfl, by decide +kernel, by decide +kernel⟩
include T X0 G0 in
theorem fo_read {k : Nat} {fd : FuncData} (h : Lv P w K mg base k) (FD2 : FunD K "read" "read" (defArgs (top 36)) (defBody (top 36)) (defScope (top 36)) [] [] (He.ga K "read") fd) : FnG P w K mg base (L2.CX P w) (k + 1) (He.ga K "read") fd ["text"] (spP (fx K w) 1 (env (k + 1)).p_read) := by
  have e0 : (env (k + 1)).p_read = runB 2 (d_read (env k)) := rfl
  rw [e0]
  have q0 := fn_pure (P := P) (w := w) (mg := mg) (base := base) (k := k) (F := fx K w) (d := d_read (env k)) FD2 sc_read
  refine q0 fun cdv A outer s H E hr => ?_
  have nd := sc_read.nd
  refine ss_cons ?_ ?_
  · refine st_set (i := 1) nd rfl (.inl rfl) ?_ (by rfl) (by first | exact .inl rfl | exact .inr rfl | assumption)
    · refine pc h.f_good_region (takes_of rfl rfl rfl rfl) hr rfl ?_ (by rfl) (by decide) (by rfl) (by rfl)
      · refine pq_cons ?_ ?_ (by rfl)
        · exact pp_var (pv 0)
        · refine pq_cons ?_ ?_ (by rfl)
          · exact pp_dic0
          · exact pq_nil
  · refine ss_cons ?_ ?_
    · refine st_if ?_ ?_ ?_
      · refine pt_cmp' op_isN c_isN.bin ?_ ?_ (nomark _)
        · exact pp_var (pv 1)
        · exact pp_non
      · refine ss_one ?_
        · exact st_raise (c := 6) rfl (takes_of rfl rfl rfl rfl) (T.e_BadText _) rfl (by decide)
      · exact ss_nil
    · refine ss_one ?_
      · refine st_ret ?_
        · exact pp_var (pv 1)
include T X0 G0 in
theorem ok_read {k : Nat} (h : Lv P w K mg base k) : FnH P w K mg base (k + 1) "read" (spP (fx K w) 1 (env (k + 1)).p_read) := by
  obtain ⟨fd, FD⟩ := T.sy.d.def_ 20 (d := ⟨("read", none), "read", "read", defArgs (top 36), defBody (top 36), defScope (top 36), [], []⟩) rfl
  exact ⟨_, fd, ["text"], He.glo_ok X0 G0 (T.sy.d.fact 20 (f := .glo "read") rfl), FD.kp, FD.bindsN (fun _ _ _ _ _ _ us hl => match us, hl with | [_], _ => rfl), fo_read T X0 G0 h FD⟩
theorem sc_write_picture : FnScope ["picture", "colour", "region"] ["picture"] (defScope (top 37)) := ⟨rfl, rfl, rfl, by decide +kernel, rfl, by decide +kernel, by decide +kernel⟩
include T X0 G0 in
theorem fo_write_picture {k : Nat} {fd : FuncData} (h : Lv P w K mg base k) (FD2 : FunD K "write_picture" "write_picture" (defArgs (top 37)) (defBody (top 37)) (defScope (top 37)) [] [] (He.ga K "write_picture") fd) : FnG P w K mg base (L2.CX P w) (k + 1) (He.ga K "write_picture") fd ["picture"] (spP (fx K w) 1 (env (k + 1)).p_write_picture) := by
  have e0 : (env (k + 1)).p_write_picture = runB 3 (d_write_picture (env k)) := rfl
  rw [e0]
  have q0 := fn_pure (P := P) (w := w) (mg := mg) (base := base) (k := k) (F := fx K w) (d := d_write_picture (env k)) FD2 sc_write_picture
  refine q0 fun cdv A outer s H E hr => ?_
  have nd := sc_write_picture.nd
  refine ss_cons ?_ ?_
  · refine st_expr ?_ (by rfl)
    · refine pc h.f_check_picture (takes_of rfl rfl rfl rfl) hr rfl ?_ (by rfl) (by decide) (by rfl) (by rfl)
      · refine pq_cons ?_ ?_ (by rfl)
        · exact pp_var (pv 0)
        · exact pq_nil
  · refine ss_one ?_
    · refine st_ret ?_
      · refine pp_join ?_ ?_ (by rfl) (by rfl) (by rfl)
        · exact pp_str
        · refine pp_comp (own := [("colour", 1), ("region", 2)]) rfl nd ?_ (blkC_of (N' := ["picture", "colour", "region"]) (sc' := defScope (top 37)) rfl rfl (by decide +kernel)) (tg_tup rfl (tgs_cons (tgs_cons tgs_nil)) rfl) rfl (fun _ _ _ _ _ => (pg_tup rfl (pgs_cons (pg_name (i := 1) nd rfl (by first | exact Or.inl rfl | exact Or.inr rfl)) (pgs_cons (pg_name (i := 2) nd rfl (by first | exact Or.inl rfl | exact Or.inr rfl)) pgs_nil)))) (fun _ _ _ _ _ => ?_) (fun _ _ _ _ _ => ?_) (by intro _; rfl)
          · refine qi_seq rfl ?_
            · exact pp_var (pv 0)
          · exact qts_nil
          · refine pp_joined ?_
            · refine pj_cons ?_ ?_
              · refine pp_fmt ?_
                · exact pp_var (pv 1)
              · refine pj_cons ?_ ?_
                · exact pp_str
                · refine pj_cons ?_ ?_
                  · refine pp_fmt ?_
                    · refine pc h.f_text_of takes0 hr rfl ?_ (by rfl) (by decide) (by rfl) (by rfl)
                      · refine pq_cons ?_ ?_ (by rfl)
                        · exact pp_var (pv 2)
                        · exact pq_nil
                  · exact pj_nil
include T X0 G0 in
theorem ok_write_picture {k : Nat} (h : Lv P w K mg base k) : FnH P w K mg base (k + 1) "write_picture" (spP (fx K w) 1 (env (k + 1)).p_write_picture) := by
  obtain ⟨fd, FD⟩ := T.sy.d.def_ 21 (d := ⟨("write_picture", none), "write_picture", "write_picture", defArgs (top 37), defBody (top 37), defScope (top 37), [], []⟩) rfl
  exact ⟨_, fd, ["picture"], He.glo_ok X0 G0 (T.sy.d.fact 21 (f := .glo "write_picture") rfl), FD.kp, FD.bindsN (fun _ _ _ _ _ _ us hl => match us, hl with | [_], _ => rfl), fo_write_picture T X0 G0 h FD⟩
theorem sc_head_and_region : FnScope ["line", "names", "at", "name", "rest"] ["line", "names"] (defScope (top 38)) := ⟨rfl, rfl, rfl, by decide +kernel, rfl, by decide +kernel, by decide +kernel⟩
include T X0 G0 in
theorem fo_head_and_region {k : Nat} {fd : FuncData} (h : Lv P w K mg base k) (FD2 : FunD K "head_and_region" "head_and_region" (defArgs (top 38)) (defBody (top 38)) (defScope (top 38)) [] [] (He.ga K "head_and_region") fd) : FnG P w K mg base (L2.CX P w) (k + 1) (He.ga K "head_and_region") fd ["line", "names"] (spP (fx K w) 2 (env (k + 1)).p_head_and_region) := by
  have e0 : (env (k + 1)).p_head_and_region = runB 5 (d_head_and_region (env k)) := rfl
  rw [e0]
  have q0 := fn_pure (P := P) (w := w) (mg := mg) (base := base) (k := k) (F := fx K w) (d := d_head_and_region (env k)) FD2 sc_head_and_region
  refine q0 fun cdv A outer s H E hr => ?_
  have nd := sc_head_and_region.nd
  refine ss_cons ?_ ?_
  · refine st_if ?_ ?_ ?_
    · refine PW.pt ?_
      · refine qw_and ?_ ?_
        · refine pt_tru rfl ?_ (by intro _; rfl)
          · refine pp_starts ?_ ?_ (by rfl) (by rfl) (by rfl)
            · exact pp_var (pv 0)
            · exact pp_str
        · refine qw_and1 ?_
          · refine pt_cmp' (op_inA hr.u65) (c_in rfl).bin ?_ ?_ rfl
            · exact pp_str
            · exact pp_var (pv 0)
    · refine ss_cons ?_ ?_
      · refine st_set (i := 2) nd rfl (.inl rfl) ?_ (by rfl) (by first | exact .inl rfl | exact .inr rfl | assumption)
        · refine pp_index ?_ ?_ (by rfl) (by rfl) (by rfl)
          · exact pp_var (pv 0)
          · exact pp_str
      · refine ss_one ?_
        · refine st_par (i := 3) (j := 4) rfl nd rfl rfl (by decide) rfl rfl ?_ (by rfl) (by rfl)
          · refine pq_cons ?_ ?_ (by rfl)
            · refine pp_sl rfl ?_ ?_ ?_
              · exact pp_var (pv 0)
              · refine qo_some ?_
                · refine pp_fun call_lenA (f_len rfl) T.n_len (by decide +kernel) rfl ?_ (by decide) (by decide) (by rfl) (by rfl)
                  · refine pq_cons ?_ ?_ (by rfl)
                    · exact pp_str
                    · exact pq_nil
              · refine qo_some ?_
                · exact pp_var (pv 2)
            · refine pq_cons ?_ ?_ (by rfl)
              · refine pp_sl rfl ?_ ?_ ?_
                · exact pp_var (pv 0)
                · refine qo_some ?_
                  · refine pp_op op_addA (b_add rfl) ?_ ?_
                    · exact pp_var (pv 2)
                    · refine pp_fun call_lenA (f_len rfl) T.n_len (by decide +kernel) rfl ?_ (by decide) (by decide) (by rfl) (by rfl)
                      · refine pq_cons ?_ ?_ (by rfl)
                        · exact pp_str
                        · exact pq_nil
                · exact qo_none
              · exact pq_nil
    · refine ss_one ?_
      · refine st_par (i := 3) (j := 4) rfl nd rfl rfl (by decide) rfl rfl ?_ (by rfl) (by rfl)
        · refine pq_cons ?_ ?_ (by rfl)
          · refine pp_ix rfl ?_ ?_ (by intro _ _; rfl)
            · refine pp_split ?_ ?_ (by rfl) (by rfl) (by rfl)
              · exact pp_var (pv 0)
              · exact pp_str
            · exact pp_int
          · refine pq_cons ?_ ?_ (by rfl)
            · refine pp_sl rfl ?_ ?_ ?_
              · exact pp_var (pv 0)
              · refine qo_some ?_
                · refine pp_op op_addA (b_add rfl) ?_ ?_
                  · refine pp_fun call_lenA (f_len rfl) T.n_len (by decide +kernel) rfl ?_ (by decide) (by decide) (by rfl) (by rfl)
                    · refine pq_cons ?_ ?_ (by rfl)
                      · refine pp_ix rfl ?_ ?_ (by intro _ _; rfl)
                        · refine pp_split ?_ ?_ (by rfl) (by rfl) (by rfl)
                          · exact pp_var (pv 0)
                          · exact pp_str
                        · exact pp_int
                      · exact pq_nil
                  · exact pp_int
              · exact qo_none
            · exact pq_nil
  · refine ss_one ?_
    · refine st_ret ?_
      · refine pp_tup ?_
        · refine pq_cons ?_ ?_ (by rfl)
          · refine pp_if ?_ ?_ ?_
            · refine pt_tru rfl ?_ (by intro _; rfl)
              · refine pc h.f_is_colour (takes_of rfl rfl rfl rfl) hr rfl ?_ (by rfl) (by decide) (by rfl) (by rfl)
                · refine pq_cons ?_ ?_ (by rfl)
                  · exact pp_var (pv 3)
                  · exact pq_nil
            · exact pp_var (pv 3)
            · exact pp_non
          · refine pq_cons ?_ ?_ (by rfl)
            · refine pc h.f_good_region (takes_of rfl rfl rfl rfl) hr rfl ?_ (by rfl) (by decide) (by rfl) (by rfl)
              · refine pq_cons ?_ ?_ (by rfl)
                · exact pp_var (pv 4)
                · refine pq_cons ?_ ?_ (by rfl)
                  · exact pp_var (pv 1)
                  · exact pq_nil
            · exact pq_nil
include T X0 G0 in
theorem ok_head_and_region {k : Nat} (h : Lv P w K mg base k) : FnH P w K mg base (k + 1) "head_and_region" (spP (fx K w) 2 (env (k + 1)).p_head_and_region) := by
  obtain ⟨fd, FD⟩ := T.sy.d.def_ 22 (d := ⟨("head_and_region", none), "head_and_region", "head_and_region", defArgs (top 38), defBody (top 38), defScope (top 38), [], []⟩) rfl
  exact ⟨_, fd, ["line", "names"], He.glo_ok X0 G0 (T.sy.d.fact 22 (f := .glo "head_and_region") rfl), FD.kp, FD.bindsN (fun _ _ _ _ _ _ us hl => match us, hl with | [_, _], _ => rfl), fo_head_and_region T X0 G0 h FD⟩
theorem sc_is_name : FnScope ["word"] ["word"] (defScope (top 39)) := ⟨rfl, rfl, rfl, by decide +kernel, rfl, by decide +kernel, by decide +kernel⟩
include T X0 G0 in
theorem fo_is_name {k : Nat} {fd : FuncData} (h : Lv P w K mg base k) (FD2 : FunD K "is_name" "is_name" (defArgs (top 39)) (defBody (top 39)) (defScope (top 39)) [] [] (He.ga K "is_name") fd) : FnG P w K mg base (L2.CX P w) (k + 1) (He.ga K "is_name") fd ["word"] (spP (fx K w) 1 (env (k + 1)).p_is_name) := by
  have e0 : (env (k + 1)).p_is_name = runB 1 (d_is_name (env k)) := rfl
  rw [e0]
  have q0 := fn_pure (P := P) (w := w) (mg := mg) (base := base) (k := k) (F := fx K w) (d := d_is_name (env k)) FD2 sc_is_name
  refine q0 fun cdv A outer s H E hr => ?_
  have nd := sc_is_name.nd
  refine ss_one ?_
  · refine st_ret ?_
    · refine pp_and ?_ ?_
      · refine pp_cmp op_notN c_notN.bin ?_ ?_ (nomark _)
        · exact pp_var (pv 0)
        · exact pp_non
      · refine pp_and ?_ ?_
        · refine pp_cmp (op_notInA hr.u65) (c_notIn rfl).bin ?_ ?_ rfl
          · exact pp_var (pv 0)
          · exact pp_gtup T.g_WORDS T.r_WORDS rfl (by decide)
        · refine pp_one ?_
          · refine pp_cmp (op_neD hr.units) (c_ne rfl).bin ?_ ?_ (nomark _)
            · exact pp_var (pv 0)
            · exact pp_str
include T X0 G0 in
theorem ok_is_name {k : Nat} (h : Lv P w K mg base k) : FnH P w K mg base (k + 1) "is_name" (spP (fx K w) 1 (env (k + 1)).p_is_name) := by
  obtain ⟨fd, FD⟩ := T.sy.d.def_ 23 (d := ⟨("is_name", none), "is_name", "is_name", defArgs (top 39), defBody (top 39), defScope (top 39), [], []⟩) rfl
  exact ⟨_, fd, ["word"], He.glo_ok X0 G0 (T.sy.d.fact 23 (f := .glo "is_name") rfl), FD.kp, FD.bindsN (fun _ _ _ _ _ _ us hl => match us, hl with | [_], _ => rfl), fo_is_name T X0 G0 h FD⟩
theorem sc_read_picture : FnScope ["text", "names", "paints", "at", "line", "word", "region", "is_let"] ["text"] (defScope (top 40)) := ⟨rfl, rfl, rfl, by decide +kernel, rfl, by decide +kernel, by decide +kernel⟩
include T X0 G0 in
theorem fo_read_picture {k : Nat} {fd : FuncData} (h : Lv P w K mg base k) (FD2 : FunD K "read_picture" "read_picture" (defArgs (top 40)) (defBody (top 40)) (defScope (top 40)) [] [] (He.ga K "read_picture") fd) : FnG P w K mg base (L2.CX P w) (k + 1) (He.ga K "read_picture") fd ["text"] (spP (fx K w) 1 (env (k + 1)).p_read_picture) := by
  have e0 : (env (k + 1)).p_read_picture = runB 8 (d_read_picture (env k)) := rfl
  rw [e0]
  have q0 := fn_pure (P := P) (w := w) (mg := mg) (base := base) (k := k) (F := fx K w) (d := d_read_picture (env k)) FD2 sc_read_picture
  refine q0 fun cdv A outer s H E hr => ?_
  have nd := sc_read_picture.nd
  refine ss_cons ?_ ?_
  · exact st_newD (i := 1) nd rfl (.inl rfl) (by rfl) (by first | exact .inl rfl | exact .inr rfl | assumption)
  · refine ss_cons ?_ ?_
    · refine st_newL (i := 2) nd rfl (.inl rfl) ?_ (by rfl) (by first | exact .inl rfl | exact .inr rfl | assumption)
      · exact pq_nil
    · refine ss_cons ?_ ?_
      · refine st_for (passes_of rfl) rfl ?_ (pg_tup rfl (pgs_cons (pg_name (i := 3) nd rfl (by first | exact Or.inl rfl | exact Or.inr rfl)) (pgs_cons (pg_name (i := 4) nd rfl (by first | exact Or.inl rfl | exact Or.inr rfl)) pgs_nil))) (tg_tup rfl (tgs_cons (tgs_cons tgs_nil)) rfl) ?_ (by intro _; rfl)
        · refine qi_enum rfl rfl T.n_enumerate ?_ (by rfl)
          · refine pq_cons ?_ ?_ (by rfl)
            · refine pp_if ?_ ?_ ?_
              · refine pt_tru rfl ?_ (by intro _; rfl)
                · exact pp_var (pv 0)
              · refine pp_split ?_ ?_ (by rfl) (by rfl) (by rfl)
                · exact pp_var (pv 0)
                · exact pp_str
              · refine pp_lst ?_
                · exact pq_nil
            · exact pq_nil
        · refine ss_cons ?_ ?_
          · refine st_asg ?_ (pg_tup rfl (pgs_cons (pg_name (i := 5) nd rfl (by first | exact Or.inl rfl | exact Or.inr rfl)) (pgs_cons (pg_name (i := 6) nd rfl (by first | exact Or.inl rfl | exact Or.inr rfl)) pgs_nil))) (tg_tup rfl (tgs_cons (tgs_cons tgs_nil)) rfl) (by rfl) (by rfl) (by rfl)
            · refine pcb h.f_head_and_region (takes_of rfl rfl rfl rfl) hr rfl (pv 1) ?_ (by decide) (by rfl) (by rfl) (by rfl)
              · exact pp_var (pv 4)
          · refine ss_cons ?_ ?_
            · refine st_set (i := 7) nd rfl (.inl rfl) ?_ (by rfl) (by first | exact .inl rfl | exact .inr rfl | assumption)
              · refine pp_and ?_ ?_
                · refine pp_starts ?_ ?_ (by rfl) (by rfl) (by rfl)
                  · exact pp_var (pv 4)
                  · exact pp_str
                · refine pp_one ?_
                  · refine pp_cmp (op_inA hr.u65) (c_in rfl).bin ?_ ?_ rfl
                    · exact pp_str
                    · exact pp_var (pv 4)
            · refine ss_cons ?_ ?_
              · refine st_if ?_ ?_ ?_
                · refine PW.pt ?_
                  · refine qw_or ?_ ?_
                    · refine pt_cmp' op_isN c_isN.bin ?_ ?_ (nomark _)
                      · exact pp_var (pv 5)
                      · exact pp_non
                    · refine qw_or ?_ ?_
                      · refine pt_cmp' op_isN c_isN.bin ?_ ?_ (nomark _)
                        · exact pp_var (pv 6)
                        · exact pp_non
                      · refine qw_or1 ?_
                        · refine PW.pt ?_
                          · refine qw_and ?_ ?_
                            · refine pt_tru rfl ?_ (by intro _; rfl)
                              · exact pp_var (pv 7)
                            · refine qw_and1 ?_
                              · refine qt_not ?_
                                · refine pt_tru rfl ?_ (by intro _; rfl)
                                  · refine pc h.f_is_name (takes_of rfl rfl rfl rfl) hr rfl ?_ (by rfl) (by decide) (by rfl) (by rfl)
                                    · refine pq_cons ?_ ?_ (by rfl)
                                      · exact pp_var (pv 5)
                                      · exact pq_nil
                · refine ss_one ?_
                  · refine st_raiseA rfl rfl T.low hr (takes_of rfl rfl rfl rfl) ?_ (by rfl) (by rfl) (by rfl)
                    · refine pp_op op_addA (b_add rfl) ?_ ?_
                      · exact pp_var (pv 3)
                      · exact pp_int
                · exact ss_nil
              · refine ss_one ?_
                · refine st_if ?_ ?_ ?_
                  · refine pt_tru rfl ?_ (by intro _; rfl)
                    · exact pp_var (pv 7)
                  · refine ss_one ?_
                    · refine st_putS hr.hu (pv 1) ?_ ?_ (by rfl)
                      · exact pp_var (pv 5)
                      · exact pp_var (pv 6)
                  · refine ss_one ?_
                    · refine st_if ?_ ?_ ?_
                      · refine pt_cmp' (op_eqD hr.units) (c_eq rfl).bin ?_ ?_ (nomark _)
                        · exact pp_lenA rfl T.n_len rfl (pv 2) (by rfl) (by rfl)
                        · exact pp_gint T.g_MOST_PAINTS rfl (by decide)
                      · refine ss_one ?_
                        · refine st_raiseA rfl rfl T.low hr (takes_of rfl rfl rfl rfl) ?_ (by rfl) (by rfl) (by rfl)
                          · refine pp_op op_addA (b_add rfl) ?_ ?_
                            · exact pp_var (pv 3)
                            · exact pp_int
                      · refine ss_one ?_
                        · refine st_app (pv 2) ?_ (by rfl) (by rfl) (by rfl) (by rfl) (by rfl) (by rfl)
                          · refine pp_tup ?_
                            · refine pq_cons ?_ ?_ (by rfl)
                              · exact pp_var (pv 5)
                              · refine pq_cons ?_ ?_ (by rfl)
                                · exact pp_var (pv 6)
                                · exact pq_nil
      · refine ss_one ?_
        · refine st_ret ?_
          · refine pp_ty call_tuple_of (f_tuple rfl) T.n_tuple (by decide +kernel) rfl ?_ (by decide) (by decide) (by rfl) (by rfl)
            · refine pq_cons ?_ ?_ (by rfl)
              · exact pp_rd (pv 2)
              · exact pq_nil
include T X0 G0 in
theorem ok_read_picture {k : Nat} (h : Lv P w K mg base k) : FnH P w K mg base (k + 1) "read_picture" (spP (fx K w) 1 (env (k + 1)).p_read_picture) := by
  obtain ⟨fd, FD⟩ := T.sy.d.def_ 24 (d := ⟨("read_picture", none), "read_picture", "read_picture", defArgs (top 40), defBody (top 40), defScope (top 40), [], []⟩) rfl
  exact ⟨_, fd, ["text"], He.glo_ok X0 G0 (T.sy.d.fact 24 (f := .glo "read_picture") rfl), FD.kp, FD.bindsN (fun _ _ _ _ _ _ us hl => match us, hl with | [_], _ => rfl), fo_read_picture T X0 G0 h FD⟩
theorem sc_l_begin : FnScope ["_law_script"] ["_law_script"] (defScope (top 42)) := ⟨rfl, rfl, rfl, by decide +kernel, rfl, by decide +kernel, by decide +kernel⟩
include T X0 G0 in
theorem fo_l_begin {k : Nat} {fd : FuncData} (h : Lv P w K mg base k) (FD2 : FunD K "_law_begin" "_law_begin" (defArgs (top 42)) (defBody (top 42)) (defScope (top 42)) [] [] (He.ga K "_law_begin") fd) : FnG P w K mg base (L2.CX P w) (k + 1) (He.ga K "_law_begin") fd ["_law_script"] (spO (fx K w) 1 (env (k + 1)).o_l_begin) := by
  have e0 : (env (k + 1)).o_l_begin = runO 1 (d_l_begin (env k)) := rfl
  rw [e0]
  have q0 := fn_own (P := P) (w := w) (mg := mg) (base := base) (k := k) (F := fx K w) (d := d_l_begin (env k)) FD2 sc_l_begin
  refine q0 fun cdv A outer s H E hr => ?_
  have nd := sc_l_begin.nd
  refine pq_cons ?_ ?_ (by rfl)
  · refine pp_ty call_list_of (f_list rfl) T.n_list (by decide +kernel) rfl ?_ (by decide) (by decide) (by rfl) (by rfl)
    · refine pq_cons ?_ ?_ (by rfl)
      · exact pp_var (pv 0)
      · exact pq_nil
  · refine pq_cons ?_ ?_ (by rfl)
    · exact pp_int
    · refine pq_cons ?_ ?_ (by rfl)
      · exact pp_int
      · refine pq_cons ?_ ?_ (by rfl)
        · exact pp_int
        · exact pq_nil
include T X0 G0 in
theorem ok_l_begin {k : Nat} (h : Lv P w K mg base k) : FnH P w K mg base (k + 1) "_law_begin" (spO (fx K w) 1 (env (k + 1)).o_l_begin) := by
  obtain ⟨fd, FD⟩ := T.sy.d.def_ 25 (d := ⟨("_law_begin", none), "_law_begin", "_law_begin", defArgs (top 42), defBody (top 42), defScope (top 42), [], []⟩) rfl
  exact ⟨_, fd, ["_law_script"], He.glo_ok X0 G0 (T.sy.d.fact 25 (f := .glo "_law_begin") rfl), FD.kp, FD.bindsN (fun _ _ _ _ _ _ us hl => match us, hl with | [_], _ => rfl), fo_l_begin T X0 G0 h FD⟩
theorem sc_l_draw : FnScope ["_law_draws", "_law_size", "_law_cell", "_law_found"] ["_law_draws", "_law_size"] (defScope (top 43)) := ⟨rfl, rfl, rfl, by decide +kernel, rfl, by decide +kernel, by decide +kernel⟩
include T X0 G0 in
theorem fo_l_draw {k : Nat} {fd : FuncData} (h : Lv P w K mg base k) (FD2 : FunD K "_law_draw" "_law_draw" (defArgs (top 43)) (defBody (top 43)) (defScope (top 43)) [] [] (He.ga K "_law_draw") fd) : FnG P w K mg base (L2.CX P w) (k + 1) (He.ga K "_law_draw") fd ["_law_draws", "_law_size"] (spI (fx K w) 2 (env (k + 1)).i_l_draw) := by
  have e0 : (env (k + 1)).i_l_draw = runI 4 (d_l_draw (env k)) := rfl
  rw [e0]
  have q0 := fn_inp (P := P) (w := w) (mg := mg) (base := base) (k := k) (F := fx K w) (d := d_l_draw (env k)) FD2 sc_l_draw
  refine q0 fun cdv A outer s H E io hr => ?_
  have nd := sc_l_draw.nd
  refine ss_cons ?_ ?_
  · refine st_if ?_ ?_ ?_
    · refine pt_cmp' (op_eqD hr.units) (c_eq rfl).bin ?_ ?_ (nomark _)
      · refine pp_ixM rfl (pv 0) ?_ (by intro _ _; rfl)
        · exact pp_int
      · exact pp_int
    · refine ss_one ?_
      · refine st_if ?_ ?_ ?_
        · refine pt_cmp' op_lt c_lt.bin ?_ ?_ (nomark _)
          · refine pp_ixM rfl (pv 0) ?_ (by intro _ _; rfl)
            · exact pp_int
          · refine pp_fun call_lenA (f_len rfl) T.n_len (by decide +kernel) rfl ?_ (by decide) (by decide) (by rfl) (by rfl)
            · refine pq_cons ?_ ?_ (by rfl)
              · refine pp_ixM rfl (pv 0) ?_ (by intro _ _; rfl)
                · exact pp_int
              · exact pq_nil
        · refine ss_cons ?_ ?_
          · refine st_set (i := 2) nd rfl (.inl rfl) ?_ (by rfl) (by first | exact .inl rfl | exact .inr rfl | assumption)
            · refine pp_ix rfl ?_ ?_ (by intro _ _; rfl)
              · refine pp_ixM rfl (pv 0) ?_ (by intro _ _; rfl)
                · exact pp_int
              · refine pp_ixM rfl (pv 0) ?_ (by intro _ _; rfl)
                · exact pp_int
          · refine ss_cons ?_ ?_
            · refine st_put (pv 0) ?_ ?_ (by rfl) (by rfl) (by rfl) (by intro _; rfl)
              · refine pp_op op_addA (b_add rfl) ?_ ?_
                · refine pp_ixM rfl (pv 0) ?_ (by intro _ _; rfl)
                  · exact pp_int
                · exact pp_int
              · exact pp_int
            · refine ss_one ?_
              · refine st_if ?_ ?_ ?_
                · refine pt_cmp' op_ge c_ge.bin ?_ ?_ (nomark _)
                  · exact pp_var (pv 2)
                  · refine pp_op op_pow b_pow ?_ ?_
                    · exact pp_int
                    · exact pp_int
                · refine ss_one ?_
                  · refine st_put (pv 0) ?_ ?_ (by rfl) (by rfl) (by rfl) (by intro _; rfl)
                    · exact pp_var (pv 2)
                    · exact pp_int
                · refine ss_one ?_
                  · refine st_put (pv 0) ?_ ?_ (by rfl) (by rfl) (by rfl) (by intro _; rfl)
                    · refine pp_op op_mod b_mod ?_ ?_
                      · refine pp_ty call_intA f_intA T.n_int (by decide +kernel) rfl ?_ (by decide) (by decide) (by rfl) (by rfl)
                        · refine pq_cons ?_ ?_ (by rfl)
                          · refine pp_op op_addA (b_add rfl) ?_ ?_
                            · refine pp_op op_addA (b_add rfl) ?_ ?_
                              · refine pp_op op_mulA b_mul ?_ ?_
                                · refine pp_ixM rfl (pv 0) ?_ (by intro _ _; rfl)
                                  · exact pp_int
                                · exact pp_int
                              · refine pp_op op_mulA b_mul ?_ ?_
                                · exact pp_var (pv 2)
                                · exact pp_int
                            · exact pp_int
                          · exact pq_nil
                      · exact pp_int
                    · exact pp_int
        · refine ss_one ?_
          · refine st_put (pv 0) ?_ ?_ (by rfl) (by rfl) (by rfl) (by intro _; rfl)
            · refine pp_op op_mod b_mod ?_ ?_
              · refine pp_ty call_intA f_intA T.n_int (by decide +kernel) rfl ?_ (by decide) (by decide) (by rfl) (by rfl)
                · refine pq_cons ?_ ?_ (by rfl)
                  · refine pp_op op_addA (b_add rfl) ?_ ?_
                    · refine pp_op op_mulA b_mul ?_ ?_
                      · refine pp_ixM rfl (pv 0) ?_ (by intro _ _; rfl)
                        · exact pp_int
                      · exact pp_int
                    · exact pp_int
                  · exact pq_nil
              · exact pp_int
            · exact pp_int
    · exact ss_nil
  · refine ss_cons ?_ ?_
    · refine st_if ?_ ?_ ?_
      · refine pt_cmp' op_gt c_gt.bin ?_ ?_ (nomark _)
        · refine pp_ixM rfl (pv 0) ?_ (by intro _ _; rfl)
          · exact pp_int
        · exact pp_int
      · refine ss_cons ?_ ?_
        · refine st_set (i := 3) nd rfl (.inl rfl) ?_ (by rfl) (by first | exact .inl rfl | exact .inr rfl | assumption)
          · refine pp_op op_mod b_mod ?_ ?_
            · refine pp_ty call_intA f_intA T.n_int (by decide +kernel) rfl ?_ (by decide) (by decide) (by rfl) (by rfl)
              · refine pq_cons ?_ ?_ (by rfl)
                · refine pp_ixM rfl (pv 0) ?_ (by intro _ _; rfl)
                  · exact pp_int
                · exact pq_nil
            · exact pp_var (pv 1)
        · refine ss_cons ?_ ?_
          · refine st_put (pv 0) ?_ ?_ (by rfl) (by rfl) (by rfl) (by intro _; rfl)
            · refine pp_op op_fdivW b_div ?_ ?_
              · refine pp_ixM rfl (pv 0) ?_ (by intro _ _; rfl)
                · exact pp_int
              · exact pp_var (pv 1)
            · exact pp_int
          · refine ss_one ?_
            · refine st_ret ?_
              · exact pp_var (pv 3)
      · exact ss_nil
    · refine ss_one ?_
      · refine st_ret ?_
        · refine pp_op op_mod b_mod ?_ ?_
          · refine pp_op op_mod b_mod ?_ ?_
            · refine pp_ty call_intA f_intA T.n_int (by decide +kernel) rfl ?_ (by decide) (by decide) (by rfl) (by rfl)
              · refine pq_cons ?_ ?_ (by rfl)
                · refine pp_op op_mulA b_mul ?_ ?_
                  · refine pp_ixM rfl (pv 0) ?_ (by intro _ _; rfl)
                    · exact pp_int
                  · exact pp_int
                · exact pq_nil
            · exact pp_int
          · exact pp_var (pv 1)
include T X0 G0 in
theorem ok_l_draw {k : Nat} (h : Lv P w K mg base k) : FnH P w K mg base (k + 1) "_law_draw" (spI (fx K w) 2 (env (k + 1)).i_l_draw) := by
  obtain ⟨fd, FD⟩ := T.sy.d.def_ 26 (d := ⟨("_law_draw", none), "_law_draw", "_law_draw", defArgs (top 43), defBody (top 43), defScope (top 43), [], []⟩) rfl
  exact ⟨_, fd, ["_law_draws", "_law_size"], He.glo_ok X0 G0 (T.sy.d.fact 26 (f := .glo "_law_draw") rfl), FD.kp, FD.bindsN (fun _ _ _ _ _ _ us hl => match us, hl with | [_, _], _ => rfl), fo_l_draw T X0 G0 h FD⟩
theorem sc_l_plain : FnScope ["_law_draws", "_law_words", "_law_word", "_law_a"] ["_law_draws"] (defScope (top 44)) := ⟨rfl, rfl, rfl, by decide +kernel, rfl, by decide +kernel, by decide +kernel⟩
include T X0 G0 in
theorem fo_l_plain {k : Nat} {fd : FuncData} (h : Lv P w K mg base k) (FD2 : FunD K "_law_plain" "_law_plain" (defArgs (top 44)) (defBody (top 44)) (defScope (top 44)) [] [] (He.ga K "_law_plain") fd) : FnG P w K mg base (L2.CX P w) (k + 1) (He.ga K "_law_plain") fd ["_law_draws"] (spI (fx K w) 1 (env (k + 1)).i_l_plain) := by
  have e0 : (env (k + 1)).i_l_plain = runI 4 (d_l_plain (env k)) := rfl
  rw [e0]
  have q0 := fn_inp (P := P) (w := w) (mg := mg) (base := base) (k := k) (F := fx K w) (d := d_l_plain (env k)) FD2 sc_l_plain
  refine q0 fun cdv A outer s H E io hr => ?_
  have nd := sc_l_plain.nd
  refine ss_cons ?_ ?_
  · refine st_set (i := 1) nd rfl (.inl rfl) ?_ (by rfl) (by first | exact .inl rfl | exact .inr rfl | assumption)
    · refine pp_lst ?_
      · refine pq_cons ?_ ?_ (by rfl)
        · exact pp_str
        · refine pq_cons ?_ ?_ (by rfl)
          · exact pp_str
          · refine pq_cons ?_ ?_ (by rfl)
            · exact pp_str
            · refine pq_cons ?_ ?_ (by rfl)
              · exact pp_str
              · refine pq_cons ?_ ?_ (by rfl)
                · exact pp_str
                · refine pq_cons ?_ ?_ (by rfl)
                  · exact pp_str
                  · refine pq_cons ?_ ?_ (by rfl)
                    · exact pp_str
                    · refine pq_cons ?_ ?_ (by rfl)
                      · exact pp_str
                      · refine pq_cons ?_ ?_ (by rfl)
                        · exact pp_str
                        · refine pq_cons ?_ ?_ (by rfl)
                          · exact pp_str
                          · exact pq_nil
  · refine ss_cons ?_ ?_
    · refine st_set (i := 2) nd rfl (.inl rfl) ?_ (by rfl) (by first | exact .inl rfl | exact .inr rfl | assumption)
      · refine pp_ix rfl ?_ ?_ (by intro _ _; rfl)
        · exact pp_var (pv 1)
        · refine pci h.f_l_draw (takes_of rfl rfl rfl rfl) hr rfl (pv 0) ?_ (by decide) (by rfl) (by rfl)
          · refine pq_cons ?_ ?_ (by rfl)
            · exact pp_int
            · exact pq_nil
    · refine ss_cons ?_ ?_
      · refine st_set (i := 3) nd rfl (.inl rfl) ?_ (by rfl) (by first | exact .inl rfl | exact .inr rfl | assumption)
        · refine pci h.f_l_draw (takes_of rfl rfl rfl rfl) hr rfl (pv 0) ?_ (by decide) (by rfl) (by rfl)
          · refine pq_cons ?_ ?_ (by rfl)
            · exact pp_int
            · exact pq_nil
      · refine ss_cons ?_ ?_
        · refine st_if ?_ ?_ ?_
          · refine pt_cmp' (op_eqD hr.units) (c_eq rfl).bin ?_ ?_ (nomark _)
            · exact pp_var (pv 2)
            · exact pp_str
          · refine ss_one ?_
            · refine st_ret ?_
              · refine pp_tup ?_
                · refine pq_cons ?_ ?_ (by rfl)
                  · refine pp_ix rfl ?_ ?_ (by intro _ _; rfl)
                    · refine pp_lst ?_
                      · refine pq_cons ?_ ?_ (by rfl)
                        · exact pp_str
                        · refine pq_cons ?_ ?_ (by rfl)
                          · exact pp_str
                          · exact pq_nil
                    · refine pci h.f_l_draw (takes_of rfl rfl rfl rfl) hr rfl (pv 0) ?_ (by decide) (by rfl) (by rfl)
                      · refine pq_cons ?_ ?_ (by rfl)
                        · exact pp_int
                        · exact pq_nil
                  · exact pq_nil
          · exact ss_nil
        · refine ss_cons ?_ ?_
          · refine st_if ?_ ?_ ?_
            · refine pt_cmp' (op_inA hr.u65) (c_in rfl).bin ?_ ?_ rfl
              · exact pp_var (pv 2)
              · refine pp_lst ?_
                · refine pq_cons ?_ ?_ (by rfl)
                  · exact pp_str
                  · refine pq_cons ?_ ?_ (by rfl)
                    · exact pp_str
                    · refine pq_cons ?_ ?_ (by rfl)
                      · exact pp_str
                      · exact pq_nil
            · refine ss_one ?_
              · refine st_ret ?_
                · refine pp_tup ?_
                  · refine pq_cons ?_ ?_ (by rfl)
                    · exact pp_var (pv 2)
                    · refine pq_cons ?_ ?_ (by rfl)
                      · exact pp_var (pv 3)
                      · exact pq_nil
            · exact ss_nil
          · refine ss_one ?_
            · refine st_ret ?_
              · refine pp_tup ?_
                · refine pq_cons ?_ ?_ (by rfl)
                  · exact pp_var (pv 2)
                  · refine pq_cons ?_ ?_ (by rfl)
                    · exact pp_var (pv 3)
                    · refine pq_cons ?_ ?_ (by rfl)
                      · refine pp_ix rfl ?_ ?_ (by intro _ _; rfl)
                        · refine pp_lst ?_
                          · refine pq_cons ?_ ?_ (by rfl)
                            · exact pp_int
                            · refine pq_cons ?_ ?_ (by rfl)
                              · exact pp_int
                              · refine pq_cons ?_ ?_ (by rfl)
                                · exact pp_int
                                · refine pq_cons ?_ ?_ (by rfl)
                                  · exact pp_int
                                  · refine pq_cons ?_ ?_ (by rfl)
                                    · exact pp_int
                                    · exact pq_nil
                        · refine pci h.f_l_draw (takes_of rfl rfl rfl rfl) hr rfl (pv 0) ?_ (by decide) (by rfl) (by rfl)
                          · refine pq_cons ?_ ?_ (by rfl)
                            · exact pp_int
                            · exact pq_nil
                      · exact pq_nil
include T X0 G0 in
theorem ok_l_plain {k : Nat} (h : Lv P w K mg base k) : FnH P w K mg base (k + 1) "_law_plain" (spI (fx K w) 1 (env (k + 1)).i_l_plain) := by
  obtain ⟨fd, FD⟩ := T.sy.d.def_ 27 (d := ⟨("_law_plain", none), "_law_plain", "_law_plain", defArgs (top 44), defBody (top 44), defScope (top 44), [], []⟩) rfl
  exact ⟨_, fd, ["_law_draws"], He.glo_ok X0 G0 (T.sy.d.fact 27 (f := .glo "_law_plain") rfl), FD.kp, FD.bindsN (fun _ _ _ _ _ _ us hl => match us, hl with | [_], _ => rfl), fo_l_plain T X0 G0 h FD⟩
theorem sc_l_region : FnScope ["_law_draws", "_law_deep", "_law_word", "_law_one"] ["_law_draws", "_law_deep"] (defScope (top 45)) := ⟨rfl, rfl, rfl, by decide +kernel, rfl, by decide +kernel, by decide +kernel⟩
include T X0 G0 in
theorem fo_l_region {k : Nat} {fd : FuncData} (h : Lv P w K mg base k) (FD2 : FunD K "_law_region" "_law_region" (defArgs (top 45)) (defBody (top 45)) (defScope (top 45)) [] [] (He.ga K "_law_region") fd) : FnG P w K mg base (L2.CX P w) (k + 1) (He.ga K "_law_region") fd ["_law_draws", "_law_deep"] (spI (fx K w) 2 (env (k + 1)).i_l_region) := by
  have e0 : (env (k + 1)).i_l_region = runI 4 (d_l_region (env k)) := rfl
  rw [e0]
  have q0 := fn_inp (P := P) (w := w) (mg := mg) (base := base) (k := k) (F := fx K w) (d := d_l_region (env k)) FD2 sc_l_region
  refine q0 fun cdv A outer s H E io hr => ?_
  have nd := sc_l_region.nd
  refine ss_cons ?_ ?_
  · refine st_set (i := 2) nd rfl (.inl rfl) ?_ (by rfl) (by first | exact .inl rfl | exact .inr rfl | assumption)
    · refine pp_ix rfl ?_ ?_ (by intro _ _; rfl)
      · refine pp_lst ?_
        · refine pq_cons ?_ ?_ (by rfl)
          · exact pp_str
          · refine pq_cons ?_ ?_ (by rfl)
            · exact pp_str
            · refine pq_cons ?_ ?_ (by rfl)
              · exact pp_str
              · refine pq_cons ?_ ?_ (by rfl)
                · exact pp_str
                · refine pq_cons ?_ ?_ (by rfl)
                  · exact pp_str
                  · refine pq_cons ?_ ?_ (by rfl)
                    · exact pp_str
                    · refine pq_cons ?_ ?_ (by rfl)
                      · exact pp_str
                      · refine pq_cons ?_ ?_ (by rfl)
                        · exact pp_str
                        · exact pq_nil
      · refine pci h.f_l_draw (takes_of rfl rfl rfl rfl) hr rfl (pv 0) ?_ (by decide) (by rfl) (by rfl)
        · refine pq_cons ?_ ?_ (by rfl)
          · exact pp_int
          · exact pq_nil
  · refine ss_cons ?_ ?_
    · refine st_if ?_ ?_ ?_
      · refine PW.pt ?_
        · refine qw_or ?_ ?_
          · refine pt_cmp' op_le c_le.bin ?_ ?_ (nomark _)
            · exact pp_var (pv 1)
            · exact pp_int
          · refine qw_or1 ?_
            · refine pt_cmp' (op_eqD hr.units) (c_eq rfl).bin ?_ ?_ (nomark _)
              · exact pp_var (pv 2)
              · exact pp_str
      · refine ss_one ?_
        · refine st_ret ?_
          · refine pci h.f_l_plain (takes_of rfl rfl rfl rfl) hr rfl (pv 0) ?_ (by decide) (by rfl) (by rfl)
            · exact pq_nil
      · exact ss_nil
    · refine ss_cons ?_ ?_
      · refine st_set (i := 3) nd rfl (.inl rfl) ?_ (by rfl) (by first | exact .inl rfl | exact .inr rfl | assumption)
        · refine pci h.f_l_region (takes_of rfl rfl rfl rfl) hr rfl (pv 0) ?_ (by decide) (by rfl) (by rfl)
          · refine pq_cons ?_ ?_ (by rfl)
            · refine pp_op op_sub b_sub ?_ ?_
              · exact pp_var (pv 1)
              · exact pp_int
            · exact pq_nil
      · refine ss_cons ?_ ?_
        · refine st_if ?_ ?_ ?_
          · refine pt_cmp' (op_inA hr.u65) (c_in rfl).bin ?_ ?_ rfl
            · exact pp_var (pv 2)
            · refine pp_lst ?_
              · refine pq_cons ?_ ?_ (by rfl)
                · exact pp_str
                · refine pq_cons ?_ ?_ (by rfl)
                  · exact pp_str
                  · exact pq_nil
          · refine ss_one ?_
            · refine st_ret ?_
              · refine pp_tup ?_
                · refine pq_cons ?_ ?_ (by rfl)
                  · exact pp_var (pv 2)
                  · refine pq_cons ?_ ?_ (by rfl)
                    · exact pp_var (pv 3)
                    · refine pq_cons ?_ ?_ (by rfl)
                      · refine pci h.f_l_region (takes_of rfl rfl rfl rfl) hr rfl (pv 0) ?_ (by decide) (by rfl) (by rfl)
                        · refine pq_cons ?_ ?_ (by rfl)
                          · refine pp_op op_sub b_sub ?_ ?_
                            · exact pp_var (pv 1)
                            · exact pp_int
                          · exact pq_nil
                      · exact pq_nil
          · exact ss_nil
        · refine ss_cons ?_ ?_
          · refine st_if ?_ ?_ ?_
            · refine pt_cmp' (op_eqD hr.units) (c_eq rfl).bin ?_ ?_ (nomark _)
              · exact pp_var (pv 2)
              · exact pp_str
            · refine ss_one ?_
              · refine st_ret ?_
                · refine pp_tup ?_
                  · refine pq_cons ?_ ?_ (by rfl)
                    · exact pp_var (pv 2)
                    · refine pq_cons ?_ ?_ (by rfl)
                      · refine pp_op op_sub b_sub ?_ ?_
                        · refine pci h.f_l_draw (takes_of rfl rfl rfl rfl) hr rfl (pv 0) ?_ (by decide) (by rfl) (by rfl)
                          · refine pq_cons ?_ ?_ (by rfl)
                            · exact pp_int
                            · exact pq_nil
                        · exact pp_int
                      · refine pq_cons ?_ ?_ (by rfl)
                        · refine pp_op op_sub b_sub ?_ ?_
                          · refine pci h.f_l_draw (takes_of rfl rfl rfl rfl) hr rfl (pv 0) ?_ (by decide) (by rfl) (by rfl)
                            · refine pq_cons ?_ ?_ (by rfl)
                              · exact pp_int
                              · exact pq_nil
                          · exact pp_int
                        · refine pq_cons ?_ ?_ (by rfl)
                          · exact pp_var (pv 3)
                          · exact pq_nil
            · exact ss_nil
          · refine ss_one ?_
            · refine st_ret ?_
              · refine pp_tup ?_
                · refine pq_cons ?_ ?_ (by rfl)
                  · exact pp_var (pv 2)
                  · refine pq_cons ?_ ?_ (by rfl)
                    · exact pp_var (pv 3)
                    · exact pq_nil
include T X0 G0 in
theorem ok_l_region {k : Nat} (h : Lv P w K mg base k) : FnH P w K mg base (k + 1) "_law_region" (spI (fx K w) 2 (env (k + 1)).i_l_region) := by
  obtain ⟨fd, FD⟩ := T.sy.d.def_ 28 (d := ⟨("_law_region", none), "_law_region", "_law_region", defArgs (top 45), defBody (top 45), defScope (top 45), [], []⟩) rfl
  exact ⟨_, fd, ["_law_draws", "_law_deep"], He.glo_ok X0 G0 (T.sy.d.fact 28 (f := .glo "_law_region") rfl), FD.kp, FD.bindsN (fun _ _ _ _ _ _ us hl => match us, hl with | [_, _], _ => rfl), fo_l_region T X0 G0 h FD⟩
theorem sc_l_row : FnScope ["_law_place", "_law_a", "_law_k"] ["_law_place", "_law_a", "_law_k"] (defScope (top 46)) := ⟨rfl, rfl, rfl, by decide +kernel, rfl, by decide +kernel, by decide +kernel⟩
include T X0 G0 in
theorem fo_l_row {k : Nat} {fd : FuncData} (h : Lv P w K mg base k) (FD2 : FunD K "_law_row" "_law_row" (defArgs (top 46)) (defBody (top 46)) (defScope (top 46)) [] [] (He.ga K "_law_row") fd) : FnG P w K mg base (L2.CX P w) (k + 1) (He.ga K "_law_row") fd ["_law_place", "_law_a", "_law_k"] (spP (fx K w) 3 (env (k + 1)).p_l_row) := by
  have e0 : (env (k + 1)).p_l_row = runB 3 (d_l_row (env k)) := rfl
  rw [e0]
  have q0 := fn_pure (P := P) (w := w) (mg := mg) (base := base) (k := k) (F := fx K w) (d := d_l_row (env k)) FD2 sc_l_row
  refine q0 fun cdv A outer s H E hr => ?_
  have nd := sc_l_row.nd
  refine ss_cons ?_ ?_
  · refine st_if ?_ ?_ ?_
    · refine pt_cmp' (op_eqD hr.units) (c_eq rfl).bin ?_ ?_ (nomark _)
      · exact pp_var (pv 2)
      · exact pp_int
    · refine ss_one ?_
      · refine st_ret ?_
        · refine pp_cmp (op_eqD hr.units) (c_eq rfl).bin ?_ ?_ (nomark _)
          · exact pp_var (pv 0)
          · exact pp_var (pv 1)
    · exact ss_nil
  · refine ss_one ?_
    · refine st_ret ?_
      · refine pp_and ?_ ?_
        · refine pp_cmp op_ge c_ge.bin ?_ ?_ (nomark _)
          · exact pp_var (pv 0)
          · exact pp_var (pv 1)
        · refine pp_one ?_
          · refine pp_cmp (op_eqD hr.units) (c_eq rfl).bin ?_ ?_ (nomark _)
            · refine pp_op op_mod b_mod ?_ ?_
              · refine pp_op op_sub b_sub ?_ ?_
                · exact pp_var (pv 0)
                · exact pp_var (pv 1)
              · exact pp_var (pv 2)
            · exact pp_int
include T X0 G0 in
theorem ok_l_row {k : Nat} (h : Lv P w K mg base k) : FnH P w K mg base (k + 1) "_law_row" (spP (fx K w) 3 (env (k + 1)).p_l_row) := by
  obtain ⟨fd, FD⟩ := T.sy.d.def_ 29 (d := ⟨("_law_row", none), "_law_row", "_law_row", defArgs (top 46), defBody (top 46), defScope (top 46), [], []⟩) rfl
  exact ⟨_, fd, ["_law_place", "_law_a", "_law_k"], He.glo_ok X0 G0 (T.sy.d.fact 29 (f := .glo "_law_row") rfl), FD.kp, FD.bindsN (fun _ _ _ _ _ _ us hl => match us, hl with | [_, _, _], _ => rfl), fo_l_row T X0 G0 h FD⟩
theorem sc_l_has : FnScope ["_law_region_here", "_law_n", "_law_m", "_law_i", "_law_j", "_law_word", "_law_first"] ["_law_region_here", "_law_n", "_law_m", "_law_i", "_law_j"] (defScope (top 47)) := ⟨rfl, rfl, rfl, by decide +kernel, rfl, by decide +kernel, by decide +kernel⟩
include T X0 G0 in
theorem fo_l_has {k : Nat} {fd : FuncData} (h : Lv P w K mg base k) (FD2 : FunD K "_law_has" "_law_has" (defArgs (top 47)) (defBody (top 47)) (defScope (top 47)) [] [] (He.ga K "_law_has") fd) : FnG P w K mg base (L2.CX P w) (k + 1) (He.ga K "_law_has") fd ["_law_region_here", "_law_n", "_law_m", "_law_i", "_law_j"] (spP (fx K w) 5 (env (k + 1)).p_l_has) := by
  have e0 : (env (k + 1)).p_l_has = runB 7 (d_l_has (env k)) := rfl
  rw [e0]
  have q0 := fn_pure (P := P) (w := w) (mg := mg) (base := base) (k := k) (F := fx K w) (d := d_l_has (env k)) FD2 sc_l_has
  refine q0 fun cdv A outer s H E hr => ?_
  have nd := sc_l_has.nd
  refine ss_cons ?_ ?_
  · refine st_set (i := 5) nd rfl (.inl rfl) ?_ (by rfl) (by first | exact .inl rfl | exact .inr rfl | assumption)
    · refine pp_ix rfl ?_ ?_ (by intro _ _; rfl)
      · exact pp_var (pv 0)
      · exact pp_int
  · refine ss_cons ?_ ?_
    · refine st_if ?_ ?_ ?_
      · refine pt_cmp' (op_inA hr.u65) (c_in rfl).bin ?_ ?_ rfl
        · exact pp_var (pv 5)
        · refine pp_lst ?_
          · refine pq_cons ?_ ?_ (by rfl)
            · exact pp_str
            · refine pq_cons ?_ ?_ (by rfl)
              · exact pp_str
              · exact pq_nil
      · refine ss_one ?_
        · refine st_ret ?_
          · refine pp_cmp (op_eqD hr.units) (c_eq rfl).bin ?_ ?_ (nomark _)
            · exact pp_var (pv 5)
            · exact pp_str
      · exact ss_nil
    · refine ss_cons ?_ ?_
      · refine st_if ?_ ?_ ?_
        · refine pt_cmp' (op_eqD hr.units) (c_eq rfl).bin ?_ ?_ (nomark _)
          · exact pp_var (pv 5)
          · exact pp_str
        · refine ss_one ?_
          · refine st_ret ?_
            · refine pp_cmp op_ge c_ge.bin ?_ ?_ (nomark _)
              · exact pp_var (pv 1)
              · refine pp_ix rfl ?_ ?_ (by intro _ _; rfl)
                · exact pp_var (pv 0)
                · exact pp_int
        · exact ss_nil
      · refine ss_cons ?_ ?_
        · refine st_if ?_ ?_ ?_
          · refine pt_cmp' (op_eqD hr.units) (c_eq rfl).bin ?_ ?_ (nomark _)
            · exact pp_var (pv 5)
            · exact pp_str
          · refine ss_one ?_
            · refine st_ret ?_
              · refine pp_cmp op_ge c_ge.bin ?_ ?_ (nomark _)
                · exact pp_var (pv 2)
                · refine pp_ix rfl ?_ ?_ (by intro _ _; rfl)
                  · exact pp_var (pv 0)
                  · exact pp_int
          · exact ss_nil
        · refine ss_cons ?_ ?_
          · refine st_if ?_ ?_ ?_
            · refine pt_cmp' (op_eqD hr.units) (c_eq rfl).bin ?_ ?_ (nomark _)
              · exact pp_var (pv 5)
              · exact pp_str
            · refine ss_one ?_
              · refine st_ret ?_
                · refine pp_or ?_ ?_
                  · refine pp_cmp op_lt c_lt.bin ?_ ?_ (nomark _)
                    · exact pp_var (pv 3)
                    · refine pp_ix rfl ?_ ?_ (by intro _ _; rfl)
                      · exact pp_var (pv 0)
                      · exact pp_int
                  · refine pp_or ?_ ?_
                    · refine pp_cmp op_lt c_lt.bin ?_ ?_ (nomark _)
                      · exact pp_var (pv 4)
                      · refine pp_ix rfl ?_ ?_ (by intro _ _; rfl)
                        · exact pp_var (pv 0)
                        · exact pp_int
                    · refine pp_or ?_ ?_
                      · refine pp_cmp op_le c_le.bin ?_ ?_ (nomark _)
                        · refine pp_op op_sub b_sub ?_ ?_
                          · exact pp_var (pv 1)
                          · exact pp_var (pv 3)
                        · refine pp_ix rfl ?_ ?_ (by intro _ _; rfl)
                          · exact pp_var (pv 0)
                          · exact pp_int
                      · refine pp_one ?_
                        · refine pp_cmp op_le c_le.bin ?_ ?_ (nomark _)
                          · refine pp_op op_sub b_sub ?_ ?_
                            · exact pp_var (pv 2)
                            · exact pp_var (pv 4)
                          · refine pp_ix rfl ?_ ?_ (by intro _ _; rfl)
                            · exact pp_var (pv 0)
                            · exact pp_int
            · exact ss_nil
          · refine ss_cons ?_ ?_
            · refine st_if ?_ ?_ ?_
              · refine pt_cmp' (op_eqD hr.units) (c_eq rfl).bin ?_ ?_ (nomark _)
                · exact pp_var (pv 5)
                · exact pp_str
              · refine ss_one ?_
                · refine st_ret ?_
                  · refine pc h.f_l_row (takes_of rfl rfl rfl rfl) hr rfl ?_ (by rfl) (by decide) (by rfl) (by rfl)
                    · refine pq_cons ?_ ?_ (by rfl)
                      · exact pp_var (pv 3)
                      · refine pq_cons ?_ ?_ (by rfl)
                        · refine pp_ix rfl ?_ ?_ (by intro _ _; rfl)
                          · exact pp_var (pv 0)
                          · exact pp_int
                        · refine pq_cons ?_ ?_ (by rfl)
                          · refine pp_ix rfl ?_ ?_ (by intro _ _; rfl)
                            · exact pp_var (pv 0)
                            · exact pp_int
                          · exact pq_nil
              · exact ss_nil
            · refine ss_cons ?_ ?_
              · refine st_if ?_ ?_ ?_
                · refine pt_cmp' (op_eqD hr.units) (c_eq rfl).bin ?_ ?_ (nomark _)
                  · exact pp_var (pv 5)
                  · exact pp_str
                · refine ss_one ?_
                  · refine st_ret ?_
                    · refine pc h.f_l_row (takes_of rfl rfl rfl rfl) hr rfl ?_ (by rfl) (by decide) (by rfl) (by rfl)
                      · refine pq_cons ?_ ?_ (by rfl)
                        · refine pp_op op_sub b_sub ?_ ?_
                          · refine pp_op op_sub b_sub ?_ ?_
                            · exact pp_var (pv 1)
                            · exact pp_int
                          · exact pp_var (pv 3)
                        · refine pq_cons ?_ ?_ (by rfl)
                          · refine pp_ix rfl ?_ ?_ (by intro _ _; rfl)
                            · exact pp_var (pv 0)
                            · exact pp_int
                          · refine pq_cons ?_ ?_ (by rfl)
                            · refine pp_ix rfl ?_ ?_ (by intro _ _; rfl)
                              · exact pp_var (pv 0)
                              · exact pp_int
                            · exact pq_nil
                · exact ss_nil
              · refine ss_cons ?_ ?_
                · refine st_if ?_ ?_ ?_
                  · refine pt_cmp' (op_eqD hr.units) (c_eq rfl).bin ?_ ?_ (nomark _)
                    · exact pp_var (pv 5)
                    · exact pp_str
                  · refine ss_one ?_
                    · refine st_ret ?_
                      · refine pc h.f_l_row (takes_of rfl rfl rfl rfl) hr rfl ?_ (by rfl) (by decide) (by rfl) (by rfl)
                        · refine pq_cons ?_ ?_ (by rfl)
                          · exact pp_var (pv 4)
                          · refine pq_cons ?_ ?_ (by rfl)
                            · refine pp_ix rfl ?_ ?_ (by intro _ _; rfl)
                              · exact pp_var (pv 0)
                              · exact pp_int
                            · refine pq_cons ?_ ?_ (by rfl)
                              · refine pp_ix rfl ?_ ?_ (by intro _ _; rfl)
                                · exact pp_var (pv 0)
                                · exact pp_int
                              · exact pq_nil
                  · exact ss_nil
                · refine ss_cons ?_ ?_
                  · refine st_if ?_ ?_ ?_
                    · refine pt_cmp' (op_eqD hr.units) (c_eq rfl).bin ?_ ?_ (nomark _)
                      · exact pp_var (pv 5)
                      · exact pp_str
                    · refine ss_one ?_
                      · refine st_ret ?_
                        · refine pc h.f_l_row (takes_of rfl rfl rfl rfl) hr rfl ?_ (by rfl) (by decide) (by rfl) (by rfl)
                          · refine pq_cons ?_ ?_ (by rfl)
                            · refine pp_op op_sub b_sub ?_ ?_
                              · refine pp_op op_sub b_sub ?_ ?_
                                · exact pp_var (pv 2)
                                · exact pp_int
                              · exact pp_var (pv 4)
                            · refine pq_cons ?_ ?_ (by rfl)
                              · refine pp_ix rfl ?_ ?_ (by intro _ _; rfl)
                                · exact pp_var (pv 0)
                                · exact pp_int
                              · refine pq_cons ?_ ?_ (by rfl)
                                · refine pp_ix rfl ?_ ?_ (by intro _ _; rfl)
                                  · exact pp_var (pv 0)
                                  · exact pp_int
                                · exact pq_nil
                    · exact ss_nil
                  · refine ss_cons ?_ ?_
                    · refine st_if ?_ ?_ ?_
                      · refine pt_cmp' (op_eqD hr.units) (c_eq rfl).bin ?_ ?_ (nomark _)
                        · exact pp_var (pv 5)
                        · exact pp_str
                      · refine ss_one ?_
                        · refine st_ret ?_
                          · refine pc h.f_l_has (takes_of rfl rfl rfl rfl) hr rfl ?_ (by rfl) (by decide) (by rfl) (by rfl)
                            · refine pq_cons ?_ ?_ (by rfl)
                              · refine pp_ix rfl ?_ ?_ (by intro _ _; rfl)
                                · exact pp_var (pv 0)
                                · exact pp_int
                              · refine pq_cons ?_ ?_ (by rfl)
                                · exact pp_var (pv 2)
                                · refine pq_cons ?_ ?_ (by rfl)
                                  · exact pp_var (pv 1)
                                  · refine pq_cons ?_ ?_ (by rfl)
                                    · exact pp_var (pv 4)
                                    · refine pq_cons ?_ ?_ (by rfl)
                                      · exact pp_var (pv 3)
                                      · exact pq_nil
                      · exact ss_nil
                    · refine ss_cons ?_ ?_
                      · refine st_if ?_ ?_ ?_
                        · refine pt_cmp' (op_eqD hr.units) (c_eq rfl).bin ?_ ?_ (nomark _)
                          · exact pp_var (pv 5)
                          · exact pp_str
                        · refine ss_one ?_
                          · refine st_ret ?_
                            · refine pc h.f_l_has (takes_of rfl rfl rfl rfl) hr rfl ?_ (by rfl) (by decide) (by rfl) (by rfl)
                              · refine pq_cons ?_ ?_ (by rfl)
                                · refine pp_ix rfl ?_ ?_ (by intro _ _; rfl)
                                  · exact pp_var (pv 0)
                                  · exact pp_int
                                · refine pq_cons ?_ ?_ (by rfl)
                                  · exact pp_var (pv 1)
                                  · refine pq_cons ?_ ?_ (by rfl)
                                    · exact pp_var (pv 2)
                                    · refine pq_cons ?_ ?_ (by rfl)
                                      · refine pp_op op_sub b_sub ?_ ?_
                                        · refine pp_op op_sub b_sub ?_ ?_
                                          · exact pp_var (pv 1)
                                          · exact pp_int
                                        · exact pp_var (pv 3)
                                      · refine pq_cons ?_ ?_ (by rfl)
                                        · exact pp_var (pv 4)
                                        · exact pq_nil
                        · exact ss_nil
                      · refine ss_cons ?_ ?_
                        · refine st_if ?_ ?_ ?_
                          · refine pt_cmp' (op_eqD hr.units) (c_eq rfl).bin ?_ ?_ (nomark _)
                            · exact pp_var (pv 5)
                            · exact pp_str
                          · refine ss_one ?_
                            · refine st_ret ?_
                              · refine pc h.f_l_has (takes_of rfl rfl rfl rfl) hr rfl ?_ (by rfl) (by decide) (by rfl) (by rfl)
                                · refine pq_cons ?_ ?_ (by rfl)
                                  · refine pp_ix rfl ?_ ?_ (by intro _ _; rfl)
                                    · exact pp_var (pv 0)
                                    · exact pp_int
                                  · refine pq_cons ?_ ?_ (by rfl)
                                    · exact pp_var (pv 1)
                                    · refine pq_cons ?_ ?_ (by rfl)
                                      · exact pp_var (pv 2)
                                      · refine pq_cons ?_ ?_ (by rfl)
                                        · exact pp_var (pv 3)
                                        · refine pq_cons ?_ ?_ (by rfl)
                                          · refine pp_op op_sub b_sub ?_ ?_
                                            · refine pp_op op_sub b_sub ?_ ?_
                                              · exact pp_var (pv 2)
                                              · exact pp_int
                                            · exact pp_var (pv 4)
                                          · exact pq_nil
                          · exact ss_nil
                        · refine ss_cons ?_ ?_
                          · refine st_if ?_ ?_ ?_
                            · refine pt_cmp' (op_eqD hr.units) (c_eq rfl).bin ?_ ?_ (nomark _)
                              · exact pp_var (pv 5)
                              · exact pp_str
                            · refine ss_cons ?_ ?_
                              · refine st_set (i := 3) nd rfl (.inl rfl) ?_ (by rfl) (by first | exact .inl rfl | exact .inr rfl | assumption)
                                · refine pp_op op_sub b_sub ?_ ?_
                                  · exact pp_var (pv 3)
                                  · refine pp_ix rfl ?_ ?_ (by intro _ _; rfl)
                                    · exact pp_var (pv 0)
                                    · exact pp_int
                              · refine ss_cons ?_ ?_
                                · refine st_set (i := 4) nd rfl (.inl rfl) ?_ (by rfl) (by first | exact .inl rfl | exact .inr rfl | assumption)
                                  · refine pp_op op_sub b_sub ?_ ?_
                                    · exact pp_var (pv 4)
                                    · refine pp_ix rfl ?_ ?_ (by intro _ _; rfl)
                                      · exact pp_var (pv 0)
                                      · exact pp_int
                                · refine ss_one ?_
                                  · refine st_ret ?_
                                    · refine pp_and ?_ ?_
                                      · refine pp_chain op_le op_lt c_le c_lt.bin ?_ ?_ ?_ (by with_unfolding_all rfl)
                                        · exact pp_int
                                        · exact pp_var (pv 3)
                                        · exact pp_var (pv 1)
                                      · refine pp_and ?_ ?_
                                        · refine pp_chain op_le op_lt c_le c_lt.bin ?_ ?_ ?_ (by with_unfolding_all rfl)
                                          · exact pp_int
                                          · exact pp_var (pv 4)
                                          · exact pp_var (pv 2)
                                        · refine pp_one ?_
                                          · refine pc h.f_l_has (takes_of rfl rfl rfl rfl) hr rfl ?_ (by rfl) (by decide) (by rfl) (by rfl)
                                            · refine pq_cons ?_ ?_ (by rfl)
                                              · refine pp_ix rfl ?_ ?_ (by intro _ _; rfl)
                                                · exact pp_var (pv 0)
                                                · exact pp_int
                                              · refine pq_cons ?_ ?_ (by rfl)
                                                · exact pp_var (pv 1)
                                                · refine pq_cons ?_ ?_ (by rfl)
                                                  · exact pp_var (pv 2)
                                                  · refine pq_cons ?_ ?_ (by rfl)
                                                    · exact pp_var (pv 3)
                                                    · refine pq_cons ?_ ?_ (by rfl)
                                                      · exact pp_var (pv 4)
                                                      · exact pq_nil
                            · exact ss_nil
                          · refine ss_cons ?_ ?_
                            · refine st_if ?_ ?_ ?_
                              · refine pt_cmp' (op_eqD hr.units) (c_eq rfl).bin ?_ ?_ (nomark _)
                                · exact pp_var (pv 5)
                                · exact pp_str
                              · refine ss_one ?_
                                · refine st_ret ?_
                                  · refine pp_not ?_
                                    · refine pc h.f_l_has (takes_of rfl rfl rfl rfl) hr rfl ?_ (by rfl) (by decide) (by rfl) (by rfl)
                                      · refine pq_cons ?_ ?_ (by rfl)
                                        · refine pp_ix rfl ?_ ?_ (by intro _ _; rfl)
                                          · exact pp_var (pv 0)
                                          · exact pp_int
                                        · refine pq_cons ?_ ?_ (by rfl)
                                          · exact pp_var (pv 1)
                                          · refine pq_cons ?_ ?_ (by rfl)
                                            · exact pp_var (pv 2)
                                            · refine pq_cons ?_ ?_ (by rfl)
                                              · exact pp_var (pv 3)
                                              · refine pq_cons ?_ ?_ (by rfl)
                                                · exact pp_var (pv 4)
                                                · exact pq_nil
                              · exact ss_nil
                            · refine ss_cons ?_ ?_
                              · refine st_set (i := 6) nd rfl (.inl rfl) ?_ (by rfl) (by first | exact .inl rfl | exact .inr rfl | assumption)
                                · refine pc h.f_l_has (takes_of rfl rfl rfl rfl) hr rfl ?_ (by rfl) (by decide) (by rfl) (by rfl)
                                  · refine pq_cons ?_ ?_ (by rfl)
                                    · refine pp_ix rfl ?_ ?_ (by intro _ _; rfl)
                                      · exact pp_var (pv 0)
                                      · exact pp_int
                                    · refine pq_cons ?_ ?_ (by rfl)
                                      · exact pp_var (pv 1)
                                      · refine pq_cons ?_ ?_ (by rfl)
                                        · exact pp_var (pv 2)
                                        · refine pq_cons ?_ ?_ (by rfl)
                                          · exact pp_var (pv 3)
                                          · refine pq_cons ?_ ?_ (by rfl)
                                            · exact pp_var (pv 4)
                                            · exact pq_nil
                              · refine ss_cons ?_ ?_
                                · refine st_if ?_ ?_ ?_
                                  · refine pt_cmp' (op_eqD hr.units) (c_eq rfl).bin ?_ ?_ (nomark _)
                                    · exact pp_var (pv 5)
                                    · exact pp_str
                                  · refine ss_one ?_
                                    · refine st_ret ?_
                                      · refine pp_and ?_ ?_
                                        · exact pp_var (pv 6)
                                        · refine pp_one ?_
                                          · refine pc h.f_l_has (takes_of rfl rfl rfl rfl) hr rfl ?_ (by rfl) (by decide) (by rfl) (by rfl)
                                            · refine pq_cons ?_ ?_ (by rfl)
                                              · refine pp_ix rfl ?_ ?_ (by intro _ _; rfl)
                                                · exact pp_var (pv 0)
                                                · exact pp_int
                                              · refine pq_cons ?_ ?_ (by rfl)
                                                · exact pp_var (pv 1)
                                                · refine pq_cons ?_ ?_ (by rfl)
                                                  · exact pp_var (pv 2)
                                                  · refine pq_cons ?_ ?_ (by rfl)
                                                    · exact pp_var (pv 3)
                                                    · refine pq_cons ?_ ?_ (by rfl)
                                                      · exact pp_var (pv 4)
                                                      · exact pq_nil
                                  · exact ss_nil
                                · refine ss_one ?_
                                  · refine st_ret ?_
                                    · refine pp_or ?_ ?_
                                      · exact pp_var (pv 6)
                                      · refine pp_one ?_
                                        · refine pc h.f_l_has (takes_of rfl rfl rfl rfl) hr rfl ?_ (by rfl) (by decide) (by rfl) (by rfl)
                                          · refine pq_cons ?_ ?_ (by rfl)
                                            · refine pp_ix rfl ?_ ?_ (by intro _ _; rfl)
                                              · exact pp_var (pv 0)
                                              · exact pp_int
                                            · refine pq_cons ?_ ?_ (by rfl)
                                              · exact pp_var (pv 1)
                                              · refine pq_cons ?_ ?_ (by rfl)
                                                · exact pp_var (pv 2)
                                                · refine pq_cons ?_ ?_ (by rfl)
                                                  · exact pp_var (pv 3)
                                                  · refine pq_cons ?_ ?_ (by rfl)
                                                    · exact pp_var (pv 4)
                                                    · exact pq_nil
include T X0 G0 in
theorem ok_l_has {k : Nat} (h : Lv P w K mg base k) : FnH P w K mg base (k + 1) "_law_has" (spP (fx K w) 5 (env (k + 1)).p_l_has) := by
  obtain ⟨fd, FD⟩ := T.sy.d.def_ 30 (d := ⟨("_law_has", none), "_law_has", "_law_has", defArgs (top 47), defBody (top 47), defScope (top 47), [], []⟩) rfl
  exact ⟨_, fd, ["_law_region_here", "_law_n", "_law_m", "_law_i", "_law_j"], He.glo_ok X0 G0 (T.sy.d.fact 30 (f := .glo "_law_has") rfl), FD.kp, FD.bindsN (fun _ _ _ _ _ _ us hl => match us, hl with | [_, _, _, _, _], _ => rfl), fo_l_has T X0 G0 h FD⟩
theorem sc_l_cells : FnScope ["_law_region_here", "_law_n", "_law_m", "_law_found", "_law_i", "_law_j"] ["_law_region_here", "_law_n", "_law_m"] (defScope (top 48)) := ⟨rfl, rfl, rfl, by decide +kernel, rfl, by decide +kernel, by decide +kernel⟩
include T X0 G0 in
theorem fo_l_cells {k : Nat} {fd : FuncData} (h : Lv P w K mg base k) (FD2 : FunD K "_law_cells" "_law_cells" (defArgs (top 48)) (defBody (top 48)) (defScope (top 48)) [] [] (He.ga K "_law_cells") fd) : FnG P w K mg base (L2.CX P w) (k + 1) (He.ga K "_law_cells") fd ["_law_region_here", "_law_n", "_law_m"] (spP (fx K w) 3 (env (k + 1)).p_l_cells) := by
  have e0 : (env (k + 1)).p_l_cells = runB 6 (d_l_cells (env k)) := rfl
  rw [e0]
  have q0 := fn_pure (P := P) (w := w) (mg := mg) (base := base) (k := k) (F := fx K w) (d := d_l_cells (env k)) FD2 sc_l_cells
  refine q0 fun cdv A outer s H E hr => ?_
  have nd := sc_l_cells.nd
  refine ss_cons ?_ ?_
  · refine st_set (i := 3) nd rfl (.inl rfl) ?_ (by rfl) (by first | exact .inl rfl | exact .inr rfl | assumption)
    · refine pp_lst ?_
      · exact pq_nil
  · refine ss_cons ?_ ?_
    · refine st_for (passes_of rfl) rfl ?_ (pg_name (i := 4) nd rfl (by first | exact Or.inl rfl | exact Or.inr rfl)) tg_one ?_ (by intro _; rfl)
      · refine qi_range1 rfl T.n_range ?_ (by rfl)
        · refine pq_cons ?_ ?_ (by rfl)
          · exact pp_var (pv 1)
          · exact pq_nil
      · refine ss_one ?_
        · refine st_set (i := 3) nd rfl (.inl rfl) ?_ (by rfl) (by first | exact .inl rfl | exact .inr rfl | assumption)
          · refine pp_op op_addA (b_add rfl) ?_ ?_
            · exact pp_var (pv 3)
            · refine pp_comp (own := [("_law_j", 5)]) rfl nd ?_ (blkC_of (N' := ["_law_region_here", "_law_n", "_law_m", "_law_found", "_law_i", "_law_j"]) (sc' := defScope (top 48)) rfl rfl (by decide +kernel)) tg_one rfl (fun _ _ _ _ _ => (pg_name (i := 5) nd rfl (by first | exact Or.inl rfl | exact Or.inr rfl))) (fun _ _ _ _ _ => ?_) (fun _ _ _ _ _ => ?_) (by intro _; rfl)
              · refine qi_range1 rfl T.n_range ?_ (by rfl)
                · refine pq_cons ?_ ?_ (by rfl)
                  · exact pp_var (pv 2)
                  · exact pq_nil
              · refine qts_one ?_
                · refine pt_tru rfl ?_ (by intro _; rfl)
                  · refine pc h.f_l_has takes0 hr rfl ?_ (by rfl) (by decide) (by rfl) (by rfl)
                    · refine pq_cons ?_ ?_ (by rfl)
                      · exact pp_var (pv 0)
                      · refine pq_cons ?_ ?_ (by rfl)
                        · exact pp_var (pv 1)
                        · refine pq_cons ?_ ?_ (by rfl)
                          · exact pp_var (pv 2)
                          · refine pq_cons ?_ ?_ (by rfl)
                            · exact pp_var (pv 4)
                            · refine pq_cons ?_ ?_ (by rfl)
                              · exact pp_var (pv 5)
                              · exact pq_nil
              · refine pp_tup ?_
                · refine pq_cons ?_ ?_ (by rfl)
                  · exact pp_var (pv 4)
                  · refine pq_cons ?_ ?_ (by rfl)
                    · exact pp_var (pv 5)
                    · exact pq_nil
    · refine ss_one ?_
      · refine st_ret ?_
        · exact pp_var (pv 3)
include T X0 G0 in
theorem ok_l_cells {k : Nat} (h : Lv P w K mg base k) : FnH P w K mg base (k + 1) "_law_cells" (spP (fx K w) 3 (env (k + 1)).p_l_cells) := by
  obtain ⟨fd, FD⟩ := T.sy.d.def_ 31 (d := ⟨("_law_cells", none), "_law_cells", "_law_cells", defArgs (top 48), defBody (top 48), defScope (top 48), [], []⟩) rfl
  exact ⟨_, fd, ["_law_region_here", "_law_n", "_law_m"], He.glo_ok X0 G0 (T.sy.d.fact 31 (f := .glo "_law_cells") rfl), FD.kp, FD.bindsN (fun _ _ _ _ _ _ us hl => match us, hl with | [_, _, _], _ => rfl), fo_l_cells T X0 G0 h FD⟩
theorem sc_l_picture : FnScope ["_law_draws", "_law_many", "_law_found", "_law_k"] ["_law_draws", "_law_many"] (defScope (top 49)) := ⟨rfl, rfl, rfl, by decide +kernel, rfl, by decide +kernel, by decide +kernel⟩
include T X0 G0 in
theorem fo_l_picture {k : Nat} {fd : FuncData} (h : Lv P w K mg base k) (FD2 : FunD K "_law_picture" "_law_picture" (defArgs (top 49)) (defBody (top 49)) (defScope (top 49)) [] [] (He.ga K "_law_picture") fd) : FnG P w K mg base (L2.CX P w) (k + 1) (He.ga K "_law_picture") fd ["_law_draws", "_law_many"] (spI (fx K w) 2 (env (k + 1)).i_l_picture) := by
  have e0 : (env (k + 1)).i_l_picture = runI 4 (d_l_picture (env k)) := rfl
  rw [e0]
  have q0 := fn_inp (P := P) (w := w) (mg := mg) (base := base) (k := k) (F := fx K w) (d := d_l_picture (env k)) FD2 sc_l_picture
  refine q0 fun cdv A outer s H E io hr => ?_
  have nd := sc_l_picture.nd
  refine ss_cons ?_ ?_
  · refine st_newL (i := 2) nd rfl (.inl rfl) ?_ (by rfl) (by first | exact .inl rfl | exact .inr rfl | assumption)
    · exact pq_nil
  · refine ss_cons ?_ ?_
    · refine st_for (passes_of rfl) rfl ?_ (pg_name (i := 3) nd rfl (by first | exact Or.inl rfl | exact Or.inr rfl)) tg_one ?_ (by intro _; rfl)
      · refine qi_range1 rfl T.n_range ?_ (by rfl)
        · refine pq_cons ?_ ?_ (by rfl)
          · exact pp_var (pv 1)
          · exact pq_nil
      · refine ss_one ?_
        · refine st_app (pv 2) ?_ (by rfl) (by rfl) (by rfl) (by rfl) (by rfl) (by rfl)
          · refine pp_tup ?_
            · refine pq_cons ?_ ?_ (by rfl)
              · refine pp_ix rfl ?_ ?_ (by intro _ _; rfl)
                · refine pp_lst ?_
                  · refine pq_cons ?_ ?_ (by rfl)
                    · exact pp_str
                    · refine pq_cons ?_ ?_ (by rfl)
                      · exact pp_str
                      · refine pq_cons ?_ ?_ (by rfl)
                        · exact pp_str
                        · exact pq_nil
                · refine pci h.f_l_draw (takes_of rfl rfl rfl rfl) hr rfl (pv 0) ?_ (by decide) (by rfl) (by rfl)
                  · refine pq_cons ?_ ?_ (by rfl)
                    · exact pp_int
                    · exact pq_nil
              · refine pq_cons ?_ ?_ (by rfl)
                · refine pci h.f_l_region (takes_of rfl rfl rfl rfl) hr rfl (pv 0) ?_ (by decide) (by rfl) (by rfl)
                  · refine pq_cons ?_ ?_ (by rfl)
                    · exact pp_int
                    · exact pq_nil
                · exact pq_nil
    · refine ss_one ?_
      · refine st_ret ?_
        · refine pp_ty call_tuple_of (f_tuple rfl) T.n_tuple (by decide +kernel) rfl ?_ (by decide) (by decide) (by rfl) (by rfl)
          · refine pq_cons ?_ ?_ (by rfl)
            · exact pp_rd (pv 2)
            · exact pq_nil
include T X0 G0 in
theorem ok_l_picture {k : Nat} (h : Lv P w K mg base k) : FnH P w K mg base (k + 1) "_law_picture" (spI (fx K w) 2 (env (k + 1)).i_l_picture) := by
  obtain ⟨fd, FD⟩ := T.sy.d.def_ 32 (d := ⟨("_law_picture", none), "_law_picture", "_law_picture", defArgs (top 49), defBody (top 49), defScope (top 49), [], []⟩) rfl
  exact ⟨_, fd, ["_law_draws", "_law_many"], He.glo_ok X0 G0 (T.sy.d.fact 32 (f := .glo "_law_picture") rfl), FD.kp, FD.bindsN (fun _ _ _ _ _ _ us hl => match us, hl with | [_, _], _ => rfl), fo_l_picture T X0 G0 h FD⟩
theorem sc_l_colour : FnScope ["_law_picture_here", "_law_n", "_law_m", "_law_i", "_law_j", "_law_found", "_law_colour_here", "_law_region_here"] ["_law_picture_here", "_law_n", "_law_m", "_law_i", "_law_j"] (defScope (top 50)) := ⟨rfl, rfl, rfl, by decide +kernel, rfl, by decide +kernel, by decide +kernel⟩
include T X0 G0 in
theorem fo_l_colour {k : Nat} {fd : FuncData} (h : Lv P w K mg base k) (FD2 : FunD K "_law_colour" "_law_colour" (defArgs (top 50)) (defBody (top 50)) (defScope (top 50)) [] [] (He.ga K "_law_colour") fd) : FnG P w K mg base (L2.CX P w) (k + 1) (He.ga K "_law_colour") fd ["_law_picture_here", "_law_n", "_law_m", "_law_i", "_law_j"] (spP (fx K w) 5 (env (k + 1)).p_l_colour) := by
  have e0 : (env (k + 1)).p_l_colour = runB 8 (d_l_colour (env k)) := rfl
  rw [e0]
  have q0 := fn_pure (P := P) (w := w) (mg := mg) (base := base) (k := k) (F := fx K w) (d := d_l_colour (env k)) FD2 sc_l_colour
  refine q0 fun cdv A outer s H E hr => ?_
  have nd := sc_l_colour.nd
  refine ss_cons ?_ ?_
  · refine st_set (i := 5) nd rfl (.inl rfl) ?_ (by rfl) (by first | exact .inl rfl | exact .inr rfl | assumption)
    · exact pp_non
  · refine ss_cons ?_ ?_
    · refine st_for (passes_of rfl) rfl ?_ (pg_tup rfl (pgs_cons (pg_name (i := 6) nd rfl (by first | exact Or.inl rfl | exact Or.inr rfl)) (pgs_cons (pg_name (i := 7) nd rfl (by first | exact Or.inl rfl | exact Or.inr rfl)) pgs_nil))) (tg_tup rfl (tgs_cons (tgs_cons tgs_nil)) rfl) ?_ (by intro _; rfl)
      · refine qi_seq rfl ?_
        · exact pp_var (pv 0)
      · refine ss_one ?_
        · refine st_if ?_ ?_ ?_
          · refine pt_tru rfl ?_ (by intro _; rfl)
            · refine pc h.f_l_has (takes_of rfl rfl rfl rfl) hr rfl ?_ (by rfl) (by decide) (by rfl) (by rfl)
              · refine pq_cons ?_ ?_ (by rfl)
                · exact pp_var (pv 7)
                · refine pq_cons ?_ ?_ (by rfl)
                  · exact pp_var (pv 1)
                  · refine pq_cons ?_ ?_ (by rfl)
                    · exact pp_var (pv 2)
                    · refine pq_cons ?_ ?_ (by rfl)
                      · exact pp_var (pv 3)
                      · refine pq_cons ?_ ?_ (by rfl)
                        · exact pp_var (pv 4)
                        · exact pq_nil
          · refine ss_one ?_
            · refine st_set (i := 5) nd rfl (.inl rfl) ?_ (by rfl) (by first | exact .inl rfl | exact .inr rfl | assumption)
              · exact pp_var (pv 6)
          · exact ss_nil
    · refine ss_one ?_
      · refine st_ret ?_
        · exact pp_var (pv 5)
include T X0 G0 in
theorem ok_l_colour {k : Nat} (h : Lv P w K mg base k) : FnH P w K mg base (k + 1) "_law_colour" (spP (fx K w) 5 (env (k + 1)).p_l_colour) := by
  obtain ⟨fd, FD⟩ := T.sy.d.def_ 33 (d := ⟨("_law_colour", none), "_law_colour", "_law_colour", defArgs (top 50), defBody (top 50), defScope (top 50), [], []⟩) rfl
  exact ⟨_, fd, ["_law_picture_here", "_law_n", "_law_m", "_law_i", "_law_j"], He.glo_ok X0 G0 (T.sy.d.fact 33 (f := .glo "_law_colour") rfl), FD.kp, FD.bindsN (fun _ _ _ _ _ _ us hl => match us, hl with | [_, _, _, _, _], _ => rfl), fo_l_colour T X0 G0 h FD⟩
theorem sc_l_like : FnScope ["_law_actual", "_law_due", "_law_k", "_law_key"] ["_law_actual", "_law_due"] (defScope (top 51)) := ⟨rfl, rfl, rfl, by decide +kernel, rfl, by decide +kernel, by decide +kernel⟩
include T X0 G0 in
theorem fo_l_like {k : Nat} {fd : FuncData} (h : Lv P w K mg base k) (FD2 : FunD K "_law_like" "_law_like" (defArgs (top 51)) (defBody (top 51)) (defScope (top 51)) [] [] (He.ga K "_law_like") fd) : FnG P w K mg base (L2.CX P w) (k + 1) (He.ga K "_law_like") fd ["_law_actual", "_law_due"] (spP (fx K w) 2 (env (k + 1)).p_l_like) := by
  have e0 : (env (k + 1)).p_l_like = runB 4 (d_l_like (env k)) := rfl
  rw [e0]
  have q0 := fn_pure (P := P) (w := w) (mg := mg) (base := base) (k := k) (F := fx K w) (d := d_l_like (env k)) FD2 sc_l_like
  refine q0 fun cdv A outer s H E hr => ?_
  have nd := sc_l_like.nd
  refine ss_cons ?_ ?_
  · refine st_if ?_ ?_ ?_
    · refine pt_tru rfl ?_ (by intro _; rfl)
      · refine pp_isi rfl (by decide) T.n_isinstance rfl T.n_dict (by decide +kernel) rfl (by decide) (by decide) ?_ (by rfl) (by rfl) (by rfl)
        · exact pp_var (pv 1)
    · refine ss_cons ?_ ?_
      · refine st_if ?_ ?_ ?_
        · refine PW.pt ?_
          · refine qw_or ?_ ?_
            · refine qt_not ?_
              · refine pt_tru rfl ?_ (by intro _; rfl)
                · refine pp_isi rfl (by decide) T.n_isinstance rfl T.n_dict (by decide +kernel) rfl (by decide) (by decide) ?_ (by rfl) (by rfl) (by rfl)
                  · exact pp_var (pv 0)
            · refine qw_or1 ?_
              · refine pt_cmp' (op_neD hr.units) (c_ne rfl).bin ?_ ?_ (nomark _)
                · refine pp_ty call_list_of (f_list rfl) T.n_list (by decide +kernel) rfl ?_ (by decide) (by decide) (by rfl) (by rfl)
                  · refine pq_cons ?_ ?_ (by rfl)
                    · exact pp_var (pv 0)
                    · exact pq_nil
                · refine pp_ty call_list_of (f_list rfl) T.n_list (by decide +kernel) rfl ?_ (by decide) (by decide) (by rfl) (by rfl)
                  · refine pq_cons ?_ ?_ (by rfl)
                    · exact pp_var (pv 1)
                    · exact pq_nil
        · refine ss_one ?_
          · refine st_ret ?_
            · exact pp_bl
        · exact ss_nil
      · refine ss_one ?_
        · refine st_ret ?_
          · refine pp_fun (cr_all rfl) f_all T.n_all (by decide +kernel) rfl ?_ (by decide) (by decide) (by rfl) (by rfl)
            · refine pq_cons ?_ ?_ (by rfl)
              · refine pp_comp (own := [("_law_key", 3)]) rfl nd ?_ (blkC_of (N' := ["_law_actual", "_law_due", "_law_k", "_law_key"]) (sc' := defScope (top 51)) rfl rfl (by decide +kernel)) tg_one rfl (fun _ _ _ _ _ => (pg_name (i := 3) nd rfl (by first | exact Or.inl rfl | exact Or.inr rfl))) (fun _ _ _ _ _ => ?_) (fun _ _ _ _ _ => ?_) (by intro _; rfl)
                · refine qi_seq rfl ?_
                  · exact pp_var (pv 1)
                · exact qts_nil
                · refine pc h.f_l_like takes0 hr rfl ?_ (by rfl) (by decide) (by rfl) (by rfl)
                  · refine pq_cons ?_ ?_ (by rfl)
                    · refine pp_ix rfl ?_ ?_ (by intro _ _; rfl)
                      · exact pp_var (pv 0)
                      · exact pp_var (pv 3)
                    · refine pq_cons ?_ ?_ (by rfl)
                      · refine pp_ix rfl ?_ ?_ (by intro _ _; rfl)
                        · exact pp_var (pv 1)
                        · exact pp_var (pv 3)
                      · exact pq_nil
              · exact pq_nil
    · exact ss_nil
  · refine ss_cons ?_ ?_
    · refine st_if ?_ ?_ ?_
      · refine pt_cmp' op_isN c_isN.bin ?_ ?_ (nomark _)
        · exact pp_var (pv 1)
        · exact pp_non
      · refine ss_one ?_
        · refine st_ret ?_
          · refine pp_cmp op_isN c_isN.bin ?_ ?_ (nomark _)
            · exact pp_var (pv 0)
            · exact pp_non
      · exact ss_nil
    · refine ss_cons ?_ ?_
      · refine st_if ?_ ?_ ?_
        · refine pt_tru rfl ?_ (by intro _; rfl)
          · refine pp_isi rfl (by decide) T.n_isinstance rfl T.n_bool (by decide +kernel) rfl (by decide) (by decide) ?_ (by rfl) (by rfl) (by rfl)
            · exact pp_var (pv 1)
        · refine ss_one ?_
          · refine st_ret ?_
            · refine pp_and ?_ ?_
              · refine pp_isi rfl (by decide) T.n_isinstance rfl T.n_bool (by decide +kernel) rfl (by decide) (by decide) ?_ (by rfl) (by rfl) (by rfl)
                · exact pp_var (pv 0)
              · refine pp_one ?_
                · refine pp_cmp (op_eqD hr.units) (c_eq rfl).bin ?_ ?_ (nomark _)
                  · exact pp_var (pv 0)
                  · exact pp_var (pv 1)
        · exact ss_nil
      · refine ss_cons ?_ ?_
        · refine st_if ?_ ?_ ?_
          · refine pt_tru rfl ?_ (by intro _; rfl)
            · refine pp_isi rfl (by decide) T.n_isinstance rfl T.n_int (by decide +kernel) rfl (by decide) (by decide) ?_ (by rfl) (by rfl) (by rfl)
              · exact pp_var (pv 1)
          · refine ss_one ?_
            · refine st_ret ?_
              · refine pp_and ?_ ?_
                · refine pp_isi rfl (by decide) T.n_isinstance rfl T.n_int (by decide +kernel) rfl (by decide) (by decide) ?_ (by rfl) (by rfl) (by rfl)
                  · exact pp_var (pv 0)
                · refine pp_and ?_ ?_
                  · refine pp_not ?_
                    · refine pp_isi rfl (by decide) T.n_isinstance rfl T.n_bool (by decide +kernel) rfl (by decide) (by decide) ?_ (by rfl) (by rfl) (by rfl)
                      · exact pp_var (pv 0)
                  · refine pp_one ?_
                    · refine pp_cmp (op_eqD hr.units) (c_eq rfl).bin ?_ ?_ (nomark _)
                      · exact pp_var (pv 0)
                      · exact pp_var (pv 1)
          · exact ss_nil
        · refine ss_cons ?_ ?_
          · refine st_if ?_ ?_ ?_
            · refine pt_tru rfl ?_ (by intro _; rfl)
              · refine pp_isi rfl (by decide) T.n_isinstance rfl T.n_str (by decide +kernel) rfl (by decide) (by decide) ?_ (by rfl) (by rfl) (by rfl)
                · exact pp_var (pv 1)
            · refine ss_one ?_
              · refine st_ret ?_
                · refine pp_and ?_ ?_
                  · refine pp_isi rfl (by decide) T.n_isinstance rfl T.n_str (by decide +kernel) rfl (by decide) (by decide) ?_ (by rfl) (by rfl) (by rfl)
                    · exact pp_var (pv 0)
                  · refine pp_one ?_
                    · refine pp_cmp (op_eqD hr.units) (c_eq rfl).bin ?_ ?_ (nomark _)
                      · exact pp_var (pv 0)
                      · exact pp_var (pv 1)
            · exact ss_nil
          · refine ss_cons ?_ ?_
            · refine st_if ?_ ?_ ?_
              · refine pt_tru rfl ?_ (by intro _; rfl)
                · refine pp_isi rfl (by decide) T.n_isinstance rfl T.n_tuple (by decide +kernel) rfl (by decide) (by decide) ?_ (by rfl) (by rfl) (by rfl)
                  · exact pp_var (pv 1)
              · refine ss_one ?_
                · refine st_if ?_ ?_ ?_
                  · refine PW.pt ?_
                    · refine qw_or ?_ ?_
                      · refine qt_not ?_
                        · refine pt_tru rfl ?_ (by intro _; rfl)
                          · refine pp_isi rfl (by decide) T.n_isinstance rfl T.n_tuple (by decide +kernel) rfl (by decide) (by decide) ?_ (by rfl) (by rfl) (by rfl)
                            · exact pp_var (pv 0)
                      · refine qw_or1 ?_
                        · refine pt_cmp' (op_neD hr.units) (c_ne rfl).bin ?_ ?_ (nomark _)
                          · refine pp_fun call_lenA (f_len rfl) T.n_len (by decide +kernel) rfl ?_ (by decide) (by decide) (by rfl) (by rfl)
                            · refine pq_cons ?_ ?_ (by rfl)
                              · exact pp_var (pv 0)
                              · exact pq_nil
                          · refine pp_fun call_lenA (f_len rfl) T.n_len (by decide +kernel) rfl ?_ (by decide) (by decide) (by rfl) (by rfl)
                            · refine pq_cons ?_ ?_ (by rfl)
                              · exact pp_var (pv 1)
                              · exact pq_nil
                  · refine ss_one ?_
                    · refine st_ret ?_
                      · exact pp_bl
                  · exact ss_nil
              · refine ss_one ?_
                · refine st_if ?_ ?_ ?_
                  · refine PW.pt ?_
                    · refine qw_or ?_ ?_
                      · refine qt_not ?_
                        · refine pt_tru rfl ?_ (by intro _; rfl)
                          · refine pp_isi rfl (by decide) T.n_isinstance rfl T.n_list (by decide +kernel) rfl (by decide) (by decide) ?_ (by rfl) (by rfl) (by rfl)
                            · exact pp_var (pv 0)
                      · refine qw_or1 ?_
                        · refine pt_cmp' (op_neD hr.units) (c_ne rfl).bin ?_ ?_ (nomark _)
                          · refine pp_fun call_lenA (f_len rfl) T.n_len (by decide +kernel) rfl ?_ (by decide) (by decide) (by rfl) (by rfl)
                            · refine pq_cons ?_ ?_ (by rfl)
                              · exact pp_var (pv 0)
                              · exact pq_nil
                          · refine pp_fun call_lenA (f_len rfl) T.n_len (by decide +kernel) rfl ?_ (by decide) (by decide) (by rfl) (by rfl)
                            · refine pq_cons ?_ ?_ (by rfl)
                              · exact pp_var (pv 1)
                              · exact pq_nil
                  · refine ss_one ?_
                    · refine st_ret ?_
                      · exact pp_bl
                  · exact ss_nil
            · refine ss_cons ?_ ?_
              · refine st_for (passes_of rfl) rfl ?_ (pg_name (i := 2) nd rfl (by first | exact Or.inl rfl | exact Or.inr rfl)) tg_one ?_ (by intro _; rfl)
                · refine qi_range1 rfl T.n_range ?_ (by rfl)
                  · refine pq_cons ?_ ?_ (by rfl)
                    · refine pp_fun call_lenA (f_len rfl) T.n_len (by decide +kernel) rfl ?_ (by decide) (by decide) (by rfl) (by rfl)
                      · refine pq_cons ?_ ?_ (by rfl)
                        · exact pp_var (pv 1)
                        · exact pq_nil
                    · exact pq_nil
                · refine ss_one ?_
                  · refine st_if ?_ ?_ ?_
                    · refine qt_not ?_
                      · refine pt_tru rfl ?_ (by intro _; rfl)
                        · refine pc h.f_l_like (takes_of rfl rfl rfl rfl) hr rfl ?_ (by rfl) (by decide) (by rfl) (by rfl)
                          · refine pq_cons ?_ ?_ (by rfl)
                            · refine pp_ix rfl ?_ ?_ (by intro _ _; rfl)
                              · exact pp_var (pv 0)
                              · exact pp_var (pv 2)
                            · refine pq_cons ?_ ?_ (by rfl)
                              · refine pp_ix rfl ?_ ?_ (by intro _ _; rfl)
                                · exact pp_var (pv 1)
                                · exact pp_var (pv 2)
                              · exact pq_nil
                    · refine ss_one ?_
                      · refine st_ret ?_
                        · exact pp_bl
                    · exact ss_nil
              · refine ss_one ?_
                · refine st_ret ?_
                  · exact pp_bl
include T X0 G0 in
theorem ok_l_like {k : Nat} (h : Lv P w K mg base k) : FnH P w K mg base (k + 1) "_law_like" (spP (fx K w) 2 (env (k + 1)).p_l_like) := by
  obtain ⟨fd, FD⟩ := T.sy.d.def_ 34 (d := ⟨("_law_like", none), "_law_like", "_law_like", defArgs (top 51), defBody (top 51), defScope (top 51), [], []⟩) rfl
  exact ⟨_, fd, ["_law_actual", "_law_due"], He.glo_ok X0 G0 (T.sy.d.fact 34 (f := .glo "_law_like") rfl), FD.kp, FD.bindsN (fun _ _ _ _ _ _ us hl => match us, hl with | [_, _], _ => rfl), fo_l_like T X0 G0 h FD⟩
theorem sc_l_text : FnScope ["_law_region_here", "_law_head", "_law_parts", "_law_inner", "_law_numbers", "_law_one", "_law_number"] ["_law_region_here"] (defScope (top 52)) := ⟨rfl, rfl, rfl, by decide +kernel, rfl, by decide +kernel, by decide +kernel⟩
include T X0 G0 in
theorem fo_l_text {k : Nat} {fd : FuncData} (h : Lv P w K mg base k) (FD2 : FunD K "_law_text" "_law_text" (defArgs (top 52)) (defBody (top 52)) (defScope (top 52)) [] [] (He.ga K "_law_text") fd) : FnG P w K mg base (L2.CX P w) (k + 1) (He.ga K "_law_text") fd ["_law_region_here"] (spP (fx K w) 1 (env (k + 1)).p_l_text) := by
  have e0 : (env (k + 1)).p_l_text = runB 7 (d_l_text (env k)) := rfl
  rw [e0]
  have q0 := fn_pure (P := P) (w := w) (mg := mg) (base := base) (k := k) (F := fx K w) (d := d_l_text (env k)) FD2 sc_l_text
  refine q0 fun cdv A outer s H E hr => ?_
  have nd := sc_l_text.nd
  refine ss_cons ?_ ?_
  · refine st_if ?_ ?_ ?_
    · refine pt_cmp' (op_eqD hr.units) (c_eq rfl).bin ?_ ?_ (nomark _)
      · refine pp_ix rfl ?_ ?_ (by intro _ _; rfl)
        · exact pp_var (pv 0)
        · exact pp_int
      · exact pp_str
    · refine ss_cons ?_ ?_
      · refine st_set (i := 1) nd rfl (.inl rfl) ?_ (by rfl) (by first | exact .inl rfl | exact .inr rfl | assumption)
        · refine pp_op op_addA (b_add rfl) ?_ ?_
          · refine pp_op op_addA (b_add rfl) ?_ ?_
            · refine pp_op op_addA (b_add rfl) ?_ ?_
              · exact pp_str
              · refine pp_ty call_strA f_str T.n_str (by decide +kernel) rfl ?_ (by decide) (by decide) (by rfl) (by rfl)
                · refine pq_cons ?_ ?_ (by rfl)
                  · refine pp_ix rfl ?_ ?_ (by intro _ _; rfl)
                    · exact pp_var (pv 0)
                    · exact pp_int
                  · exact pq_nil
            · exact pp_str
          · refine pp_ty call_strA f_str T.n_str (by decide +kernel) rfl ?_ (by decide) (by decide) (by rfl) (by rfl)
            · refine pq_cons ?_ ?_ (by rfl)
              · refine pp_ix rfl ?_ ?_ (by intro _ _; rfl)
                · exact pp_var (pv 0)
                · exact pp_int
              · exact pq_nil
      · refine ss_one ?_
        · refine st_ret ?_
          · refine pp_op op_addA (b_add rfl) ?_ ?_
            · refine pp_op op_addA (b_add rfl) ?_ ?_
              · refine pp_op op_addA (b_add rfl) ?_ ?_
                · exact pp_var (pv 1)
                · exact pp_str
              · refine pc h.f_l_text (takes_of rfl rfl rfl rfl) hr rfl ?_ (by rfl) (by decide) (by rfl) (by rfl)
                · refine pq_cons ?_ ?_ (by rfl)
                  · refine pp_ix rfl ?_ ?_ (by intro _ _; rfl)
                    · exact pp_var (pv 0)
                    · exact pp_int
                  · exact pq_nil
            · exact pp_str
    · exact ss_nil
  · refine ss_cons ?_ ?_
    · refine st_setComp (i := 2) (own := [("_law_one", 5)]) rfl nd rfl rfl (sw_true rfl rfl rfl (by decide +kernel)) ?_ (blkC_of (N' := ["_law_region_here", "_law_head", "_law_parts", "_law_inner", "_law_numbers", "_law_one", "_law_number"]) (sc' := defScope (top 52)) rfl rfl (by decide +kernel)) tg_one rfl (fun _ _ _ _ _ => (pg_name (i := 5) nd rfl (by first | exact Or.inl rfl | exact Or.inr rfl))) (fun _ _ _ _ _ => ?_) (fun _ _ _ _ _ => ?_) (by intro _; rfl)
      · refine qi_seq rfl ?_
        · refine pp_sl rfl ?_ ?_ ?_
          · exact pp_var (pv 0)
          · refine qo_some ?_
            · exact pp_int
          · exact qo_none
      · refine qts_one ?_
        · refine pt_tru rfl ?_ (by intro _; rfl)
          · refine pp_isi rfl (by decide) T.n_isinstance rfl T.n_tuple (by decide +kernel) rfl (by decide) (by decide) ?_ (by rfl) (by rfl) (by rfl)
            · exact pp_var (pv 5)
      · exact pp_var (pv 5)
    · refine ss_cons ?_ ?_
      · refine st_setComp (i := 3) (own := [("_law_one", 5)]) rfl nd rfl rfl (sw_true rfl rfl rfl (by decide +kernel)) ?_ (blkC_of (N' := ["_law_region_here", "_law_head", "_law_parts", "_law_inner", "_law_numbers", "_law_one", "_law_number"]) (sc' := defScope (top 52)) rfl rfl (by decide +kernel)) tg_one rfl (fun _ _ _ _ _ => (pg_name (i := 5) nd rfl (by first | exact Or.inl rfl | exact Or.inr rfl))) (fun _ _ _ _ _ => ?_) (fun _ _ _ _ _ => ?_) (by intro _; rfl)
        · refine qi_seq rfl ?_
          · exact pp_var (pv 2)
        · exact qts_nil
        · refine pc h.f_l_text takes0 hr rfl ?_ (by rfl) (by decide) (by rfl) (by rfl)
          · refine pq_cons ?_ ?_ (by rfl)
            · exact pp_var (pv 5)
            · exact pq_nil
      · refine ss_cons ?_ ?_
        · refine st_if ?_ ?_ ?_
          · refine pt_cmp' op_gt c_gt.bin ?_ ?_ (nomark _)
            · refine pp_fun call_lenA (f_len rfl) T.n_len (by decide +kernel) rfl ?_ (by decide) (by decide) (by rfl) (by rfl)
              · refine pq_cons ?_ ?_ (by rfl)
                · exact pp_var (pv 3)
                · exact pq_nil
            · exact pp_int
          · refine ss_one ?_
            · refine st_ret ?_
              · refine pp_op op_addA (b_add rfl) ?_ ?_
                · refine pp_op op_addA (b_add rfl) ?_ ?_
                  · refine pp_op op_addA (b_add rfl) ?_ ?_
                    · refine pp_ix rfl ?_ ?_ (by intro _ _; rfl)
                      · exact pp_var (pv 0)
                      · exact pp_int
                    · exact pp_str
                  · refine pp_join ?_ ?_ (by rfl) (by rfl) (by rfl)
                    · exact pp_str
                    · exact pp_var (pv 3)
                · exact pp_str
          · exact ss_nil
        · refine ss_cons ?_ ?_
          · refine st_setComp (i := 4) (own := [("_law_number", 6)]) rfl nd rfl rfl (sw_true rfl rfl rfl (by decide +kernel)) ?_ (blkC_of (N' := ["_law_region_here", "_law_head", "_law_parts", "_law_inner", "_law_numbers", "_law_one", "_law_number"]) (sc' := defScope (top 52)) rfl rfl (by decide +kernel)) tg_one rfl (fun _ _ _ _ _ => (pg_name (i := 6) nd rfl (by first | exact Or.inl rfl | exact Or.inr rfl))) (fun _ _ _ _ _ => ?_) (fun _ _ _ _ _ => ?_) (by intro _; rfl)
            · refine qi_seq rfl ?_
              · refine pp_sl rfl ?_ ?_ ?_
                · exact pp_var (pv 0)
                · refine qo_some ?_
                  · exact pp_int
                · exact qo_none
            · exact qts_nil
            · refine pp_ty call_strA f_str T.n_str (by decide +kernel) rfl ?_ (by decide) (by decide) (by rfl) (by rfl)
              · refine pq_cons ?_ ?_ (by rfl)
                · exact pp_var (pv 6)
                · exact pq_nil
          · refine ss_one ?_
            · refine st_ret ?_
              · refine pp_join ?_ ?_ (by rfl) (by rfl) (by rfl)
                · exact pp_str
                · refine pp_op op_addA (b_add rfl) ?_ ?_
                  · refine pp_lst ?_
                    · refine pq_cons ?_ ?_ (by rfl)
                      · refine pp_ix rfl ?_ ?_ (by intro _ _; rfl)
                        · exact pp_var (pv 0)
                        · exact pp_int
                      · exact pq_nil
                  · exact pp_var (pv 4)
include T X0 G0 in
theorem ok_l_text {k : Nat} (h : Lv P w K mg base k) : FnH P w K mg base (k + 1) "_law_text" (spP (fx K w) 1 (env (k + 1)).p_l_text) := by
  obtain ⟨fd, FD⟩ := T.sy.d.def_ 35 (d := ⟨("_law_text", none), "_law_text", "_law_text", defArgs (top 52), defBody (top 52), defScope (top 52), [], []⟩) rfl
  exact ⟨_, fd, ["_law_region_here"], He.glo_ok X0 G0 (T.sy.d.fact 35 (f := .glo "_law_text") rfl), FD.kp, FD.bindsN (fun _ _ _ _ _ _ us hl => match us, hl with | [_], _ => rfl), fo_l_text T X0 G0 h FD⟩
theorem sc_law_k09 : FnScope ["_law_script", "_law_draws", "_law_region_here", "_law_said", "_law_picture_here", "_law_rows", "_law_text_here", "_law_name", "_law_head", "_law_lines", "_law_after", "_law_due", "_law_colour_here", "_law_one"] ["_law_script"] (defScope (top 53)) := ⟨rfl, rfl, rfl, by decide +kernel, rfl, by decide +kernel, by decide +kernel⟩
include T X0 G0 in
theorem fo_law_k09 {k : Nat} {fd : FuncData} (h : Lv P w K mg base k) (FD2 : FunD K "law" "law" (defArgs (top 53)) (defBody (top 53)) (defScope (top 53)) [] [] (He.ga K "law") fd) : FnG P w K mg base (L2.CX P w) (k + 1) (He.ga K "law") fd ["_law_script"] (spP (fx K w) 1 (env (k + 1)).p_law_k09) := by
  have e0 : (env (k + 1)).p_law_k09 = runB 14 (d_law_k09 (env k)) := rfl
  rw [e0]
  have q0 := fn_pure (P := P) (w := w) (mg := mg) (base := base) (k := k) (F := fx K w) (d := d_law_k09 (env k)) FD2 sc_law_k09
  refine q0 fun cdv A outer s H E hr => ?_
  have nd := sc_law_k09.nd
  refine ss_cons ?_ ?_
  · refine sco (i := 1) h.f_l_begin (takes_of rfl rfl rfl rfl) hr nd rfl (.inl rfl) rfl ?_ (by decide) (by rfl) (by rfl) (by rfl) (by first | exact .inl rfl | exact .inr rfl | assumption)
    · refine pq_cons ?_ ?_ (by rfl)
      · exact pp_var (pv 0)
      · exact pq_nil
  · refine ss_cons ?_ ?_
    · refine st_set (i := 2) nd rfl (.inl rfl) ?_ (by rfl) (by first | exact .inl rfl | exact .inr rfl | assumption)
      · refine pci h.f_l_region (takes_of rfl rfl rfl rfl) hr rfl (pv 1) ?_ (by decide) (by rfl) (by rfl)
        · refine pq_cons ?_ ?_ (by rfl)
          · exact pp_int
          · exact pq_nil
    · refine ss_cons ?_ ?_
      · refine st_set (i := 3) nd rfl (.inl rfl) ?_ (by rfl) (by first | exact .inl rfl | exact .inr rfl | assumption)
        · refine pc h.f_l_text (takes_of rfl rfl rfl rfl) hr rfl ?_ (by rfl) (by decide) (by rfl) (by rfl)
          · refine pq_cons ?_ ?_ (by rfl)
            · exact pp_var (pv 2)
            · exact pq_nil
      · refine ss_cons ?_ ?_
        · refine st_if ?_ ?_ ?_
          · refine PW.pt ?_
            · refine qw_or ?_ ?_
              · refine pt_cmp' (op_neD hr.units) (c_ne rfl).bin ?_ ?_ (nomark _)
                · refine pc h.f_write (takes_of rfl rfl rfl rfl) hr rfl ?_ (by rfl) (by decide) (by rfl) (by rfl)
                  · refine pq_cons ?_ ?_ (by rfl)
                    · exact pp_var (pv 2)
                    · exact pq_nil
                · exact pp_var (pv 3)
              · refine qw_or1 ?_
                · refine qt_not ?_
                  · refine pt_tru rfl ?_ (by intro _; rfl)
                    · refine pc h.f_l_like (takes_of rfl rfl rfl rfl) hr rfl ?_ (by rfl) (by decide) (by rfl) (by rfl)
                      · refine pq_cons ?_ ?_ (by rfl)
                        · refine pc h.f_read (takes_of rfl rfl rfl rfl) hr rfl ?_ (by rfl) (by decide) (by rfl) (by rfl)
                          · refine pq_cons ?_ ?_ (by rfl)
                            · exact pp_var (pv 3)
                            · exact pq_nil
                        · refine pq_cons ?_ ?_ (by rfl)
                          · exact pp_var (pv 2)
                          · exact pq_nil
          · refine ss_one ?_
            · refine st_ret ?_
              · exact pp_bl
          · exact ss_nil
        · refine ss_cons ?_ ?_
          · refine st_set (i := 4) nd rfl (.inl rfl) ?_ (by rfl) (by first | exact .inl rfl | exact .inr rfl | assumption)
            · refine pci h.f_l_picture (takes_of rfl rfl rfl rfl) hr rfl (pv 1) ?_ (by decide) (by rfl) (by rfl)
              · refine pq_cons ?_ ?_ (by rfl)
                · refine pci h.f_l_draw (takes_of rfl rfl rfl rfl) hr rfl (pv 1) ?_ (by decide) (by rfl) (by rfl)
                  · refine pq_cons ?_ ?_ (by rfl)
                    · exact pp_int
                    · exact pq_nil
                · exact pq_nil
          · refine ss_cons ?_ ?_
            · refine st_setComp (i := 5) (own := [("_law_colour_here", 12), ("_law_one", 13)]) rfl nd rfl rfl (sw_true rfl rfl rfl (by decide +kernel)) ?_ (blkC_of (N' := ["_law_script", "_law_draws", "_law_region_here", "_law_said", "_law_picture_here", "_law_rows", "_law_text_here", "_law_name", "_law_head", "_law_lines", "_law_after", "_law_due", "_law_colour_here", "_law_one"]) (sc' := defScope (top 53)) rfl rfl (by decide +kernel)) (tg_tup rfl (tgs_cons (tgs_cons tgs_nil)) rfl) rfl (fun _ _ _ _ _ => (pg_tup rfl (pgs_cons (pg_name (i := 12) nd rfl (by first | exact Or.inl rfl | exact Or.inr rfl)) (pgs_cons (pg_name (i := 13) nd rfl (by first | exact Or.inl rfl | exact Or.inr rfl)) pgs_nil)))) (fun _ _ _ _ _ => ?_) (fun _ _ _ _ _ => ?_) (by intro _; rfl)
              · refine qi_seq rfl ?_
                · exact pp_var (pv 4)
              · exact qts_nil
              · refine pp_op op_addA (b_add rfl) ?_ ?_
                · refine pp_op op_addA (b_add rfl) ?_ ?_
                  · exact pp_var (pv 12)
                  · exact pp_str
                · refine pc h.f_l_text takes0 hr rfl ?_ (by rfl) (by decide) (by rfl) (by rfl)
                  · refine pq_cons ?_ ?_ (by rfl)
                    · exact pp_var (pv 13)
                    · exact pq_nil
            · refine ss_cons ?_ ?_
              · refine st_set (i := 6) nd rfl (.inl rfl) ?_ (by rfl) (by first | exact .inl rfl | exact .inr rfl | assumption)
                · refine pp_join ?_ ?_ (by rfl) (by rfl) (by rfl)
                  · exact pp_str
                  · exact pp_var (pv 5)
              · refine ss_cons ?_ ?_
                · refine st_if ?_ ?_ ?_
                  · refine PW.pt ?_
                    · refine qw_or ?_ ?_
                      · refine pt_cmp' (op_neD hr.units) (c_ne rfl).bin ?_ ?_ (nomark _)
                        · refine pc h.f_write_picture (takes_of rfl rfl rfl rfl) hr rfl ?_ (by rfl) (by decide) (by rfl) (by rfl)
                          · refine pq_cons ?_ ?_ (by rfl)
                            · exact pp_var (pv 4)
                            · exact pq_nil
                        · exact pp_var (pv 6)
                      · refine qw_or1 ?_
                        · refine qt_not ?_
                          · refine pt_tru rfl ?_ (by intro _; rfl)
                            · refine pc h.f_l_like (takes_of rfl rfl rfl rfl) hr rfl ?_ (by rfl) (by decide) (by rfl) (by rfl)
                              · refine pq_cons ?_ ?_ (by rfl)
                                · refine pc h.f_read_picture (takes_of rfl rfl rfl rfl) hr rfl ?_ (by rfl) (by decide) (by rfl) (by rfl)
                                  · refine pq_cons ?_ ?_ (by rfl)
                                    · exact pp_var (pv 6)
                                    · exact pq_nil
                                · refine pq_cons ?_ ?_ (by rfl)
                                  · exact pp_var (pv 4)
                                  · exact pq_nil
                  · refine ss_one ?_
                    · refine st_ret ?_
                      · exact pp_bl
                  · exact ss_nil
                · refine ss_cons ?_ ?_
                  · refine st_set (i := 7) nd rfl (.inl rfl) ?_ (by rfl) (by first | exact .inl rfl | exact .inr rfl | assumption)
                    · refine pp_ix rfl ?_ ?_ (by intro _ _; rfl)
                      · refine pp_lst ?_
                        · refine pq_cons ?_ ?_ (by rfl)
                          · exact pp_str
                          · refine pq_cons ?_ ?_ (by rfl)
                            · exact pp_str
                            · refine pq_cons ?_ ?_ (by rfl)
                              · exact pp_str
                              · exact pq_nil
                      · refine pci h.f_l_draw (takes_of rfl rfl rfl rfl) hr rfl (pv 1) ?_ (by decide) (by rfl) (by rfl)
                        · refine pq_cons ?_ ?_ (by rfl)
                          · exact pp_int
                          · exact pq_nil
                  · refine ss_cons ?_ ?_
                    · refine st_set (i := 8) nd rfl (.inl rfl) ?_ (by rfl) (by first | exact .inl rfl | exact .inr rfl | assumption)
                      · refine pp_op op_addA (b_add rfl) ?_ ?_
                        · refine pp_op op_addA (b_add rfl) ?_ ?_
                          · exact pp_str
                          · exact pp_var (pv 7)
                        · exact pp_str
                    · refine ss_cons ?_ ?_
                      · refine st_set (i := 9) nd rfl (.inl rfl) ?_ (by rfl) (by first | exact .inl rfl | exact .inr rfl | assumption)
                        · refine pp_lst ?_
                          · refine pq_cons ?_ ?_ (by rfl)
                            · refine pp_op op_addA (b_add rfl) ?_ ?_
                              · exact pp_var (pv 8)
                              · refine pc h.f_l_text (takes_of rfl rfl rfl rfl) hr rfl ?_ (by rfl) (by decide) (by rfl) (by rfl)
                                · refine pq_cons ?_ ?_ (by rfl)
                                  · exact pp_var (pv 2)
                                  · exact pq_nil
                            · refine pq_cons ?_ ?_ (by rfl)
                              · refine pp_op op_addA (b_add rfl) ?_ ?_
                                · exact pp_str
                                · exact pp_var (pv 7)
                              · refine pq_cons ?_ ?_ (by rfl)
                                · refine pp_op op_addA (b_add rfl) ?_ ?_
                                  · refine pp_op op_addA (b_add rfl) ?_ ?_
                                    · exact pp_str
                                    · exact pp_var (pv 7)
                                  · exact pp_str
                                · exact pq_nil
                      · refine ss_cons ?_ ?_
                        · refine st_set (i := 9) nd rfl (.inl rfl) ?_ (by rfl) (by first | exact .inl rfl | exact .inr rfl | assumption)
                          · refine pp_op op_addA (b_add rfl) ?_ ?_
                            · exact pp_var (pv 9)
                            · refine pp_lst ?_
                              · refine pq_cons ?_ ?_ (by rfl)
                                · refine pp_op op_addA (b_add rfl) ?_ ?_
                                  · refine pp_op op_addA (b_add rfl) ?_ ?_
                                    · refine pp_op op_addA (b_add rfl) ?_ ?_
                                      · exact pp_var (pv 8)
                                      · exact pp_str
                                    · exact pp_var (pv 7)
                                  · exact pp_str
                                · refine pq_cons ?_ ?_ (by rfl)
                                  · refine pp_op op_addA (b_add rfl) ?_ ?_
                                    · refine pp_op op_addA (b_add rfl) ?_ ?_
                                      · exact pp_str
                                      · exact pp_var (pv 7)
                                    · exact pp_str
                                  · exact pq_nil
                        · refine ss_cons ?_ ?_
                          · refine st_set (i := 10) nd rfl (.inl rfl) ?_ (by rfl) (by first | exact .inl rfl | exact .inr rfl | assumption)
                            · refine pp_tup ?_
                              · refine pq_cons ?_ ?_ (by rfl)
                                · exact pp_str
                                · refine pq_cons ?_ ?_ (by rfl)
                                  · exact pp_var (pv 2)
                                  · refine pq_cons ?_ ?_ (by rfl)
                                    · refine pp_tup ?_
                                      · refine pq_cons ?_ ?_ (by rfl)
                                        · exact pp_str
                                        · refine pq_cons ?_ ?_ (by rfl)
                                          · exact pp_int
                                          · refine pq_cons ?_ ?_ (by rfl)
                                            · exact pp_int
                                            · exact pq_nil
                                    · exact pq_nil
                          · refine ss_cons ?_ ?_
                            · refine st_set (i := 11) nd rfl (.inl rfl) ?_ (by rfl) (by first | exact .inl rfl | exact .inr rfl | assumption)
                              · refine pp_tup ?_
                                · refine pq_cons ?_ ?_ (by rfl)
                                  · refine pp_tup ?_
                                    · refine pq_cons ?_ ?_ (by rfl)
                                      · exact pp_str
                                      · refine pq_cons ?_ ?_ (by rfl)
                                        · exact pp_var (pv 2)
                                        · exact pq_nil
                                  · refine pq_cons ?_ ?_ (by rfl)
                                    · refine pp_tup ?_
                                      · refine pq_cons ?_ ?_ (by rfl)
                                        · exact pp_str
                                        · refine pq_cons ?_ ?_ (by rfl)
                                          · refine pp_tup ?_
                                            · refine pq_cons ?_ ?_ (by rfl)
                                              · exact pp_str
                                              · refine pq_cons ?_ ?_ (by rfl)
                                                · exact pp_var (pv 2)
                                                · exact pq_nil
                                          · exact pq_nil
                                    · refine pq_cons ?_ ?_ (by rfl)
                                      · refine pp_tup ?_
                                        · refine pq_cons ?_ ?_ (by rfl)
                                          · exact pp_str
                                          · refine pq_cons ?_ ?_ (by rfl)
                                            · refine pp_tup ?_
                                              · refine pq_cons ?_ ?_ (by rfl)
                                                · exact pp_str
                                                · refine pq_cons ?_ ?_ (by rfl)
                                                  · exact pp_int
                                                  · refine pq_cons ?_ ?_ (by rfl)
                                                    · refine pp_un un_neg u_neg ?_
                                                      · exact pp_int
                                                    · refine pq_cons ?_ ?_ (by rfl)
                                                      · exact pp_var (pv 10)
                                                      · exact pq_nil
                                            · exact pq_nil
                                      · exact pq_nil
                            · refine ss_one ?_
                              · refine st_ret ?_
                                · refine pc h.f_l_like (takes_of rfl rfl rfl rfl) hr rfl ?_ (by rfl) (by decide) (by rfl) (by rfl)
                                  · refine pq_cons ?_ ?_ (by rfl)
                                    · refine pc h.f_read_picture (takes_of rfl rfl rfl rfl) hr rfl ?_ (by rfl) (by decide) (by rfl) (by rfl)
                                      · refine pq_cons ?_ ?_ (by rfl)
                                        · refine pp_join ?_ ?_ (by rfl) (by rfl) (by rfl)
                                          · exact pp_str
                                          · exact pp_var (pv 9)
                                        · exact pq_nil
                                    · refine pq_cons ?_ ?_ (by rfl)
                                      · exact pp_var (pv 11)
                                      · exact pq_nil
include T X0 G0 in
theorem ok_law_k09 {k : Nat} (h : Lv P w K mg base k) : FnH P w K mg base (k + 1) "law" (spP (fx K w) 1 (env (k + 1)).p_law_k09) := by
  obtain ⟨fd, FD⟩ := T.sy.d.def_ 36 (d := ⟨("law", none), "law", "law", defArgs (top 53), defBody (top 53), defScope (top 53), [], []⟩) rfl
  exact ⟨_, fd, ["_law_script"], He.glo_ok X0 G0 (T.sy.d.fact 36 (f := .glo "law") rfl), FD.kp, FD.bindsN (fun _ _ _ _ _ _ us hl => match us, hl with | [_], _ => rfl), fo_law_k09 T X0 G0 h FD⟩
end
end Pl

set_option maxHeartbeats 0
/-! printed by gen.py: the head of law k09. -/
namespace Pl
open PySem PySem.Spec PyProof.Rows L2 RZ
section
variable {P : Program} {w : World} {K : PySem.W.Frag} {mg : Str → Option Value} {base : Heap} {h : Heap}
variable (T : Txt K w mg) (X0 : K.In h) (G0 : h.Ns mainGlobals mg)
include T X0 G0 in
theorem zero_is_whole : FnH P w K mg base 0 "is_whole" (spP (fx K w) 3 (env 0).p_is_whole) := by
  obtain ⟨fd, FD⟩ := T.sy.d.def_ 0 (d := ⟨("is_whole", none), "is_whole", "is_whole", defArgs (top 11), defBody (top 11), defScope (top 11), [], []⟩) rfl
  refine ⟨_, fd, ["thing", "least", "most"], He.glo_ok X0 G0 (T.sy.d.fact 0 (f := .glo "is_whole") rfl), FD.kp, FD.bindsN (fun _ _ _ _ _ _ us hl => match us, hl with | [_, _, _], _ => rfl), ⟨fun q => ?_, fun _ _ _ _ q => ?_⟩⟩
  · obtain ⟨_, _, _, _, _, z⟩ := q; exact False.elim z
  · obtain ⟨_, _, _, _, _, z⟩ := q; exact False.elim z
include T X0 G0 in
theorem zero_are_numbers : FnH P w K mg base 0 "are_numbers" (spP (fx K w) 2 (env 0).p_are_numbers) := by
  obtain ⟨fd, FD⟩ := T.sy.d.def_ 1 (d := ⟨("are_numbers", none), "are_numbers", "are_numbers", defArgs (top 12), defBody (top 12), defScope (top 12), [], []⟩) rfl
  refine ⟨_, fd, ["signs", "things"], He.glo_ok X0 G0 (T.sy.d.fact 1 (f := .glo "are_numbers") rfl), FD.kp, FD.bindsN (fun _ _ _ _ _ _ us hl => match us, hl with | [_, _], _ => rfl), ⟨fun q => ?_, fun _ _ _ _ q => ?_⟩⟩
  · obtain ⟨_, _, _, _, _, z⟩ := q; exact False.elim z
  · obtain ⟨_, _, _, _, _, z⟩ := q; exact False.elim z
include T X0 G0 in
theorem zero_is_nested : FnH P w K mg base 0 "is_nested" (spP (fx K w) 2 (env 0).p_is_nested) := by
  obtain ⟨fd, FD⟩ := T.sy.d.def_ 2 (d := ⟨("is_nested", none), "is_nested", "is_nested", defArgs (top 13), defBody (top 13), defScope (top 13), [], []⟩) rfl
  refine ⟨_, fd, ["thing", "deep"], He.glo_ok X0 G0 (T.sy.d.fact 2 (f := .glo "is_nested") rfl), FD.kp, FD.bindsN (fun _ _ _ _ _ _ us hl => match us, hl with | [_, _], _ => rfl), ⟨fun q => ?_, fun _ _ _ _ q => ?_⟩⟩
  · obtain ⟨_, _, _, _, _, z⟩ := q; exact False.elim z
  · obtain ⟨_, _, _, _, _, z⟩ := q; exact False.elim z
include T X0 G0 in
theorem zero_is_region : FnH P w K mg base 0 "is_region" (spP (fx K w) 1 (env 0).p_is_region) := by
  obtain ⟨fd, FD⟩ := T.sy.d.def_ 3 (d := ⟨("is_region", none), "is_region", "is_region", defArgs (top 14), defBody (top 14), defScope (top 14), [], []⟩) rfl
  refine ⟨_, fd, ["thing"], He.glo_ok X0 G0 (T.sy.d.fact 3 (f := .glo "is_region") rfl), FD.kp, FD.bindsN (fun _ _ _ _ _ _ us hl => match us, hl with | [_], _ => rfl), ⟨fun q => ?_, fun _ _ _ _ q => ?_⟩⟩
  · obtain ⟨_, _, _, _, _, z⟩ := q; exact False.elim z
  · obtain ⟨_, _, _, _, _, z⟩ := q; exact False.elim z
include T X0 G0 in
theorem zero_check_region : FnH P w K mg base 0 "check_region" (spP (fx K w) 1 (env 0).p_check_region) := by
  obtain ⟨fd, FD⟩ := T.sy.d.def_ 4 (d := ⟨("check_region", none), "check_region", "check_region", defArgs (top 15), defBody (top 15), defScope (top 15), [], []⟩) rfl
  refine ⟨_, fd, ["thing"], He.glo_ok X0 G0 (T.sy.d.fact 4 (f := .glo "check_region") rfl), FD.kp, FD.bindsN (fun _ _ _ _ _ _ us hl => match us, hl with | [_], _ => rfl), ⟨fun q => ?_, fun _ _ _ _ q => ?_⟩⟩
  · obtain ⟨_, _, _, _, _, z⟩ := q; exact False.elim z
  · obtain ⟨_, _, _, _, _, z⟩ := q; exact False.elim z
include T X0 G0 in
theorem zero_inner_regions : FnH P w K mg base 0 "inner_regions" (spP (fx K w) 1 (env 0).p_inner_regions) := by
  obtain ⟨fd, FD⟩ := T.sy.d.def_ 5 (d := ⟨("inner_regions", none), "inner_regions", "inner_regions", defArgs (top 16), defBody (top 16), defScope (top 16), [], []⟩) rfl
  refine ⟨_, fd, ["region"], He.glo_ok X0 G0 (T.sy.d.fact 5 (f := .glo "inner_regions") rfl), FD.kp, FD.bindsN (fun _ _ _ _ _ _ us hl => match us, hl with | [_], _ => rfl), ⟨fun q => ?_, fun _ _ _ _ q => ?_⟩⟩
  · obtain ⟨_, _, _, _, _, z⟩ := q; exact False.elim z
  · obtain ⟨_, _, _, _, _, z⟩ := q; exact False.elim z
include T X0 G0 in
theorem zero_is_colour : FnH P w K mg base 0 "is_colour" (spP (fx K w) 1 (env 0).p_is_colour) := by
  obtain ⟨fd, FD⟩ := T.sy.d.def_ 6 (d := ⟨("is_colour", none), "is_colour", "is_colour", defArgs (top 20), defBody (top 20), defScope (top 20), [], []⟩) rfl
  refine ⟨_, fd, ["thing"], He.glo_ok X0 G0 (T.sy.d.fact 6 (f := .glo "is_colour") rfl), FD.kp, FD.bindsN (fun _ _ _ _ _ _ us hl => match us, hl with | [_], _ => rfl), ⟨fun q => ?_, fun _ _ _ _ q => ?_⟩⟩
  · obtain ⟨_, _, _, _, _, z⟩ := q; exact False.elim z
  · obtain ⟨_, _, _, _, _, z⟩ := q; exact False.elim z
include T X0 G0 in
theorem zero_is_paint : FnH P w K mg base 0 "is_paint" (spP (fx K w) 1 (env 0).p_is_paint) := by
  obtain ⟨fd, FD⟩ := T.sy.d.def_ 7 (d := ⟨("is_paint", none), "is_paint", "is_paint", defArgs (top 21), defBody (top 21), defScope (top 21), [], []⟩) rfl
  refine ⟨_, fd, ["thing"], He.glo_ok X0 G0 (T.sy.d.fact 7 (f := .glo "is_paint") rfl), FD.kp, FD.bindsN (fun _ _ _ _ _ _ us hl => match us, hl with | [_], _ => rfl), ⟨fun q => ?_, fun _ _ _ _ q => ?_⟩⟩
  · obtain ⟨_, _, _, _, _, z⟩ := q; exact False.elim z
  · obtain ⟨_, _, _, _, _, z⟩ := q; exact False.elim z
include T X0 G0 in
theorem zero_is_picture : FnH P w K mg base 0 "is_picture" (spP (fx K w) 1 (env 0).p_is_picture) := by
  obtain ⟨fd, FD⟩ := T.sy.d.def_ 8 (d := ⟨("is_picture", none), "is_picture", "is_picture", defArgs (top 22), defBody (top 22), defScope (top 22), [], []⟩) rfl
  refine ⟨_, fd, ["thing"], He.glo_ok X0 G0 (T.sy.d.fact 8 (f := .glo "is_picture") rfl), FD.kp, FD.bindsN (fun _ _ _ _ _ _ us hl => match us, hl with | [_], _ => rfl), ⟨fun q => ?_, fun _ _ _ _ q => ?_⟩⟩
  · obtain ⟨_, _, _, _, _, z⟩ := q; exact False.elim z
  · obtain ⟨_, _, _, _, _, z⟩ := q; exact False.elim z
include T X0 G0 in
theorem zero_check_picture : FnH P w K mg base 0 "check_picture" (spP (fx K w) 1 (env 0).p_check_picture) := by
  obtain ⟨fd, FD⟩ := T.sy.d.def_ 9 (d := ⟨("check_picture", none), "check_picture", "check_picture", defArgs (top 23), defBody (top 23), defScope (top 23), [], []⟩) rfl
  refine ⟨_, fd, ["thing"], He.glo_ok X0 G0 (T.sy.d.fact 9 (f := .glo "check_picture") rfl), FD.kp, FD.bindsN (fun _ _ _ _ _ _ us hl => match us, hl with | [_], _ => rfl), ⟨fun q => ?_, fun _ _ _ _ q => ?_⟩⟩
  · obtain ⟨_, _, _, _, _, z⟩ := q; exact False.elim z
  · obtain ⟨_, _, _, _, _, z⟩ := q; exact False.elim z
include T X0 G0 in
theorem zero_text_of : FnH P w K mg base 0 "text_of" (spP (fx K w) 1 (env 0).p_text_of) := by
  obtain ⟨fd, FD⟩ := T.sy.d.def_ 10 (d := ⟨("text_of", none), "text_of", "text_of", defArgs (top 26), defBody (top 26), defScope (top 26), [], []⟩) rfl
  refine ⟨_, fd, ["region"], He.glo_ok X0 G0 (T.sy.d.fact 10 (f := .glo "text_of") rfl), FD.kp, FD.bindsN (fun _ _ _ _ _ _ us hl => match us, hl with | [_], _ => rfl), ⟨fun q => ?_, fun _ _ _ _ q => ?_⟩⟩
  · obtain ⟨_, _, _, _, _, z⟩ := q; exact False.elim z
  · obtain ⟨_, _, _, _, _, z⟩ := q; exact False.elim z
include T X0 G0 in
theorem zero_write : FnH P w K mg base 0 "write" (spP (fx K w) 1 (env 0).p_write) := by
  obtain ⟨fd, FD⟩ := T.sy.d.def_ 11 (d := ⟨("write", none), "write", "write", defArgs (top 27), defBody (top 27), defScope (top 27), [], []⟩) rfl
  refine ⟨_, fd, ["region"], He.glo_ok X0 G0 (T.sy.d.fact 11 (f := .glo "write") rfl), FD.kp, FD.bindsN (fun _ _ _ _ _ _ us hl => match us, hl with | [_], _ => rfl), ⟨fun q => ?_, fun _ _ _ _ q => ?_⟩⟩
  · obtain ⟨_, _, _, _, _, z⟩ := q; exact False.elim z
  · obtain ⟨_, _, _, _, _, z⟩ := q; exact False.elim z
include T X0 G0 in
theorem zero_number_of : FnH P w K mg base 0 "number_of" (spP (fx K w) 1 (env 0).p_number_of) := by
  obtain ⟨fd, FD⟩ := T.sy.d.def_ 12 (d := ⟨("number_of", none), "number_of", "number_of", defArgs (top 28), defBody (top 28), defScope (top 28), [], []⟩) rfl
  refine ⟨_, fd, ["word"], He.glo_ok X0 G0 (T.sy.d.fact 12 (f := .glo "number_of") rfl), FD.kp, FD.bindsN (fun _ _ _ _ _ _ us hl => match us, hl with | [_], _ => rfl), ⟨fun q => ?_, fun _ _ _ _ q => ?_⟩⟩
  · obtain ⟨_, _, _, _, _, z⟩ := q; exact False.elim z
  · obtain ⟨_, _, _, _, _, z⟩ := q; exact False.elim z
include T X0 G0 in
theorem zero_numbers_of : FnH P w K mg base 0 "numbers_of" (spP (fx K w) 1 (env 0).p_numbers_of) := by
  obtain ⟨fd, FD⟩ := T.sy.d.def_ 13 (d := ⟨("numbers_of", none), "numbers_of", "numbers_of", defArgs (top 29), defBody (top 29), defScope (top 29), [], []⟩) rfl
  refine ⟨_, fd, ["words"], He.glo_ok X0 G0 (T.sy.d.fact 13 (f := .glo "numbers_of") rfl), FD.kp, FD.bindsN (fun _ _ _ _ _ _ us hl => match us, hl with | [_], _ => rfl), ⟨fun q => ?_, fun _ _ _ _ q => ?_⟩⟩
  · obtain ⟨_, _, _, _, _, z⟩ := q; exact False.elim z
  · obtain ⟨_, _, _, _, _, z⟩ := q; exact False.elim z
include T X0 G0 in
theorem zero_cut : FnH P w K mg base 0 "cut" (spP (fx K w) 1 (env 0).p_cut) := by
  obtain ⟨fd, FD⟩ := T.sy.d.def_ 14 (d := ⟨("cut", none), "cut", "cut", defArgs (top 30), defBody (top 30), defScope (top 30), [], []⟩) rfl
  refine ⟨_, fd, ["text"], He.glo_ok X0 G0 (T.sy.d.fact 14 (f := .glo "cut") rfl), FD.kp, FD.bindsN (fun _ _ _ _ _ _ us hl => match us, hl with | [_], _ => rfl), ⟨fun q => ?_, fun _ _ _ _ q => ?_⟩⟩
  · obtain ⟨_, _, _, _, _, z⟩ := q; exact False.elim z
  · obtain ⟨_, _, _, _, _, z⟩ := q; exact False.elim z
include T X0 G0 in
theorem zero_plain_in : FnH P w K mg base 0 "plain_in" (spP (fx K w) 2 (env 0).p_plain_in) := by
  obtain ⟨fd, FD⟩ := T.sy.d.def_ 15 (d := ⟨("plain_in", none), "plain_in", "plain_in", defArgs (top 31), defBody (top 31), defScope (top 31), [], []⟩) rfl
  refine ⟨_, fd, ["text", "names"], He.glo_ok X0 G0 (T.sy.d.fact 15 (f := .glo "plain_in") rfl), FD.kp, FD.bindsN (fun _ _ _ _ _ _ us hl => match us, hl with | [_, _], _ => rfl), ⟨fun q => ?_, fun _ _ _ _ q => ?_⟩⟩
  · obtain ⟨_, _, _, _, _, z⟩ := q; exact False.elim z
  · obtain ⟨_, _, _, _, _, z⟩ := q; exact False.elim z
include T X0 G0 in
theorem zero_moved_in : FnH P w K mg base 0 "moved_in" (spP (fx K w) 2 (env 0).p_moved_in) := by
  obtain ⟨fd, FD⟩ := T.sy.d.def_ 16 (d := ⟨("moved_in", none), "moved_in", "moved_in", defArgs (top 32), defBody (top 32), defScope (top 32), [], []⟩) rfl
  refine ⟨_, fd, ["parts", "names"], He.glo_ok X0 G0 (T.sy.d.fact 16 (f := .glo "moved_in") rfl), FD.kp, FD.bindsN (fun _ _ _ _ _ _ us hl => match us, hl with | [_, _], _ => rfl), ⟨fun q => ?_, fun _ _ _ _ q => ?_⟩⟩
  · obtain ⟨_, _, _, _, _, z⟩ := q; exact False.elim z
  · obtain ⟨_, _, _, _, _, z⟩ := q; exact False.elim z
include T X0 G0 in
theorem zero_region_in : FnH P w K mg base 0 "region_in" (spP (fx K w) 2 (env 0).p_region_in) := by
  obtain ⟨fd, FD⟩ := T.sy.d.def_ 17 (d := ⟨("region_in", none), "region_in", "region_in", defArgs (top 33), defBody (top 33), defScope (top 33), [], []⟩) rfl
  refine ⟨_, fd, ["text", "names"], He.glo_ok X0 G0 (T.sy.d.fact 17 (f := .glo "region_in") rfl), FD.kp, FD.bindsN (fun _ _ _ _ _ _ us hl => match us, hl with | [_, _], _ => rfl), ⟨fun q => ?_, fun _ _ _ _ q => ?_⟩⟩
  · obtain ⟨_, _, _, _, _, z⟩ := q; exact False.elim z
  · obtain ⟨_, _, _, _, _, z⟩ := q; exact False.elim z
include T X0 G0 in
theorem zero_brackets : FnH P w K mg base 0 "brackets" (spP (fx K w) 1 (env 0).p_brackets) := by
  obtain ⟨fd, FD⟩ := T.sy.d.def_ 18 (d := ⟨("brackets", none), "brackets", "brackets", defArgs (top 34), defBody (top 34), defScope (top 34), [], []⟩) rfl
  refine ⟨_, fd, ["text"], He.glo_ok X0 G0 (T.sy.d.fact 18 (f := .glo "brackets") rfl), FD.kp, FD.bindsN (fun _ _ _ _ _ _ us hl => match us, hl with | [_], _ => rfl), ⟨fun q => ?_, fun _ _ _ _ q => ?_⟩⟩
  · obtain ⟨_, _, _, _, _, z⟩ := q; exact False.elim z
  · obtain ⟨_, _, _, _, _, z⟩ := q; exact False.elim z
include T X0 G0 in
theorem zero_good_region : FnH P w K mg base 0 "good_region" (spP (fx K w) 2 (env 0).p_good_region) := by
  obtain ⟨fd, FD⟩ := T.sy.d.def_ 19 (d := ⟨("good_region", none), "good_region", "good_region", defArgs (top 35), defBody (top 35), defScope (top 35), [], []⟩) rfl
  refine ⟨_, fd, ["text", "names"], He.glo_ok X0 G0 (T.sy.d.fact 19 (f := .glo "good_region") rfl), FD.kp, FD.bindsN (fun _ _ _ _ _ _ us hl => match us, hl with | [_, _], _ => rfl), ⟨fun q => ?_, fun _ _ _ _ q => ?_⟩⟩
  · obtain ⟨_, _, _, _, _, z⟩ := q; exact False.elim z
  · obtain ⟨_, _, _, _, _, z⟩ := q; exact False.elim z
include T X0 G0 in
theorem zero_read : FnH P w K mg base 0 "read" (spP (fx K w) 1 (env 0).p_read) := by
  obtain ⟨fd, FD⟩ := T.sy.d.def_ 20 (d := ⟨("read", none), "read", "read", defArgs (top 36), defBody (top 36), defScope (top 36), [], []⟩) rfl
  refine ⟨_, fd, ["text"], He.glo_ok X0 G0 (T.sy.d.fact 20 (f := .glo "read") rfl), FD.kp, FD.bindsN (fun _ _ _ _ _ _ us hl => match us, hl with | [_], _ => rfl), ⟨fun q => ?_, fun _ _ _ _ q => ?_⟩⟩
  · obtain ⟨_, _, _, _, _, z⟩ := q; exact False.elim z
  · obtain ⟨_, _, _, _, _, z⟩ := q; exact False.elim z
include T X0 G0 in
theorem zero_write_picture : FnH P w K mg base 0 "write_picture" (spP (fx K w) 1 (env 0).p_write_picture) := by
  obtain ⟨fd, FD⟩ := T.sy.d.def_ 21 (d := ⟨("write_picture", none), "write_picture", "write_picture", defArgs (top 37), defBody (top 37), defScope (top 37), [], []⟩) rfl
  refine ⟨_, fd, ["picture"], He.glo_ok X0 G0 (T.sy.d.fact 21 (f := .glo "write_picture") rfl), FD.kp, FD.bindsN (fun _ _ _ _ _ _ us hl => match us, hl with | [_], _ => rfl), ⟨fun q => ?_, fun _ _ _ _ q => ?_⟩⟩
  · obtain ⟨_, _, _, _, _, z⟩ := q; exact False.elim z
  · obtain ⟨_, _, _, _, _, z⟩ := q; exact False.elim z
include T X0 G0 in
theorem zero_head_and_region : FnH P w K mg base 0 "head_and_region" (spP (fx K w) 2 (env 0).p_head_and_region) := by
  obtain ⟨fd, FD⟩ := T.sy.d.def_ 22 (d := ⟨("head_and_region", none), "head_and_region", "head_and_region", defArgs (top 38), defBody (top 38), defScope (top 38), [], []⟩) rfl
  refine ⟨_, fd, ["line", "names"], He.glo_ok X0 G0 (T.sy.d.fact 22 (f := .glo "head_and_region") rfl), FD.kp, FD.bindsN (fun _ _ _ _ _ _ us hl => match us, hl with | [_, _], _ => rfl), ⟨fun q => ?_, fun _ _ _ _ q => ?_⟩⟩
  · obtain ⟨_, _, _, _, _, z⟩ := q; exact False.elim z
  · obtain ⟨_, _, _, _, _, z⟩ := q; exact False.elim z
include T X0 G0 in
theorem zero_is_name : FnH P w K mg base 0 "is_name" (spP (fx K w) 1 (env 0).p_is_name) := by
  obtain ⟨fd, FD⟩ := T.sy.d.def_ 23 (d := ⟨("is_name", none), "is_name", "is_name", defArgs (top 39), defBody (top 39), defScope (top 39), [], []⟩) rfl
  refine ⟨_, fd, ["word"], He.glo_ok X0 G0 (T.sy.d.fact 23 (f := .glo "is_name") rfl), FD.kp, FD.bindsN (fun _ _ _ _ _ _ us hl => match us, hl with | [_], _ => rfl), ⟨fun q => ?_, fun _ _ _ _ q => ?_⟩⟩
  · obtain ⟨_, _, _, _, _, z⟩ := q; exact False.elim z
  · obtain ⟨_, _, _, _, _, z⟩ := q; exact False.elim z
include T X0 G0 in
theorem zero_read_picture : FnH P w K mg base 0 "read_picture" (spP (fx K w) 1 (env 0).p_read_picture) := by
  obtain ⟨fd, FD⟩ := T.sy.d.def_ 24 (d := ⟨("read_picture", none), "read_picture", "read_picture", defArgs (top 40), defBody (top 40), defScope (top 40), [], []⟩) rfl
  refine ⟨_, fd, ["text"], He.glo_ok X0 G0 (T.sy.d.fact 24 (f := .glo "read_picture") rfl), FD.kp, FD.bindsN (fun _ _ _ _ _ _ us hl => match us, hl with | [_], _ => rfl), ⟨fun q => ?_, fun _ _ _ _ q => ?_⟩⟩
  · obtain ⟨_, _, _, _, _, z⟩ := q; exact False.elim z
  · obtain ⟨_, _, _, _, _, z⟩ := q; exact False.elim z
include T X0 G0 in
theorem zero_l_begin : FnH P w K mg base 0 "_law_begin" (spO (fx K w) 1 (env 0).o_l_begin) := by
  obtain ⟨fd, FD⟩ := T.sy.d.def_ 25 (d := ⟨("_law_begin", none), "_law_begin", "_law_begin", defArgs (top 42), defBody (top 42), defScope (top 42), [], []⟩) rfl
  refine ⟨_, fd, ["_law_script"], He.glo_ok X0 G0 (T.sy.d.fact 25 (f := .glo "_law_begin") rfl), FD.kp, FD.bindsN (fun _ _ _ _ _ _ us hl => match us, hl with | [_], _ => rfl), ⟨fun q => ?_, fun _ _ _ _ q => ?_⟩⟩
  · obtain ⟨_, _, _, _, _, z⟩ := q; exact False.elim z
  · obtain ⟨_, _, _, _, _, z⟩ := q; exact False.elim z
include T X0 G0 in
theorem zero_l_draw : FnH P w K mg base 0 "_law_draw" (spI (fx K w) 2 (env 0).i_l_draw) := by
  obtain ⟨fd, FD⟩ := T.sy.d.def_ 26 (d := ⟨("_law_draw", none), "_law_draw", "_law_draw", defArgs (top 43), defBody (top 43), defScope (top 43), [], []⟩) rfl
  refine ⟨_, fd, ["_law_draws", "_law_size"], He.glo_ok X0 G0 (T.sy.d.fact 26 (f := .glo "_law_draw") rfl), FD.kp, FD.bindsN (fun _ _ _ _ _ _ us hl => match us, hl with | [_, _], _ => rfl), ⟨fun q => ?_, fun _ _ _ _ q => ?_⟩⟩
  · obtain ⟨_, _, _, _, _, _, _, _, _, _, _, z⟩ := q; exact False.elim z
  · obtain ⟨_, _, _, _, _, _, _, _, _, _, _, z⟩ := q; exact False.elim z
include T X0 G0 in
theorem zero_l_plain : FnH P w K mg base 0 "_law_plain" (spI (fx K w) 1 (env 0).i_l_plain) := by
  obtain ⟨fd, FD⟩ := T.sy.d.def_ 27 (d := ⟨("_law_plain", none), "_law_plain", "_law_plain", defArgs (top 44), defBody (top 44), defScope (top 44), [], []⟩) rfl
  refine ⟨_, fd, ["_law_draws"], He.glo_ok X0 G0 (T.sy.d.fact 27 (f := .glo "_law_plain") rfl), FD.kp, FD.bindsN (fun _ _ _ _ _ _ us hl => match us, hl with | [_], _ => rfl), ⟨fun q => ?_, fun _ _ _ _ q => ?_⟩⟩
  · obtain ⟨_, _, _, _, _, _, _, _, _, _, _, z⟩ := q; exact False.elim z
  · obtain ⟨_, _, _, _, _, _, _, _, _, _, _, z⟩ := q; exact False.elim z
include T X0 G0 in
theorem zero_l_region : FnH P w K mg base 0 "_law_region" (spI (fx K w) 2 (env 0).i_l_region) := by
  obtain ⟨fd, FD⟩ := T.sy.d.def_ 28 (d := ⟨("_law_region", none), "_law_region", "_law_region", defArgs (top 45), defBody (top 45), defScope (top 45), [], []⟩) rfl
  refine ⟨_, fd, ["_law_draws", "_law_deep"], He.glo_ok X0 G0 (T.sy.d.fact 28 (f := .glo "_law_region") rfl), FD.kp, FD.bindsN (fun _ _ _ _ _ _ us hl => match us, hl with | [_, _], _ => rfl), ⟨fun q => ?_, fun _ _ _ _ q => ?_⟩⟩
  · obtain ⟨_, _, _, _, _, _, _, _, _, _, _, z⟩ := q; exact False.elim z
  · obtain ⟨_, _, _, _, _, _, _, _, _, _, _, z⟩ := q; exact False.elim z
include T X0 G0 in
theorem zero_l_row : FnH P w K mg base 0 "_law_row" (spP (fx K w) 3 (env 0).p_l_row) := by
  obtain ⟨fd, FD⟩ := T.sy.d.def_ 29 (d := ⟨("_law_row", none), "_law_row", "_law_row", defArgs (top 46), defBody (top 46), defScope (top 46), [], []⟩) rfl
  refine ⟨_, fd, ["_law_place", "_law_a", "_law_k"], He.glo_ok X0 G0 (T.sy.d.fact 29 (f := .glo "_law_row") rfl), FD.kp, FD.bindsN (fun _ _ _ _ _ _ us hl => match us, hl with | [_, _, _], _ => rfl), ⟨fun q => ?_, fun _ _ _ _ q => ?_⟩⟩
  · obtain ⟨_, _, _, _, _, z⟩ := q; exact False.elim z
  · obtain ⟨_, _, _, _, _, z⟩ := q; exact False.elim z
include T X0 G0 in
theorem zero_l_has : FnH P w K mg base 0 "_law_has" (spP (fx K w) 5 (env 0).p_l_has) := by
  obtain ⟨fd, FD⟩ := T.sy.d.def_ 30 (d := ⟨("_law_has", none), "_law_has", "_law_has", defArgs (top 47), defBody (top 47), defScope (top 47), [], []⟩) rfl
  refine ⟨_, fd, ["_law_region_here", "_law_n", "_law_m", "_law_i", "_law_j"], He.glo_ok X0 G0 (T.sy.d.fact 30 (f := .glo "_law_has") rfl), FD.kp, FD.bindsN (fun _ _ _ _ _ _ us hl => match us, hl with | [_, _, _, _, _], _ => rfl), ⟨fun q => ?_, fun _ _ _ _ q => ?_⟩⟩
  · obtain ⟨_, _, _, _, _, z⟩ := q; exact False.elim z
  · obtain ⟨_, _, _, _, _, z⟩ := q; exact False.elim z
include T X0 G0 in
theorem zero_l_cells : FnH P w K mg base 0 "_law_cells" (spP (fx K w) 3 (env 0).p_l_cells) := by
  obtain ⟨fd, FD⟩ := T.sy.d.def_ 31 (d := ⟨("_law_cells", none), "_law_cells", "_law_cells", defArgs (top 48), defBody (top 48), defScope (top 48), [], []⟩) rfl
  refine ⟨_, fd, ["_law_region_here", "_law_n", "_law_m"], He.glo_ok X0 G0 (T.sy.d.fact 31 (f := .glo "_law_cells") rfl), FD.kp, FD.bindsN (fun _ _ _ _ _ _ us hl => match us, hl with | [_, _, _], _ => rfl), ⟨fun q => ?_, fun _ _ _ _ q => ?_⟩⟩
  · obtain ⟨_, _, _, _, _, z⟩ := q; exact False.elim z
  · obtain ⟨_, _, _, _, _, z⟩ := q; exact False.elim z
include T X0 G0 in
theorem zero_l_picture : FnH P w K mg base 0 "_law_picture" (spI (fx K w) 2 (env 0).i_l_picture) := by
  obtain ⟨fd, FD⟩ := T.sy.d.def_ 32 (d := ⟨("_law_picture", none), "_law_picture", "_law_picture", defArgs (top 49), defBody (top 49), defScope (top 49), [], []⟩) rfl
  refine ⟨_, fd, ["_law_draws", "_law_many"], He.glo_ok X0 G0 (T.sy.d.fact 32 (f := .glo "_law_picture") rfl), FD.kp, FD.bindsN (fun _ _ _ _ _ _ us hl => match us, hl with | [_, _], _ => rfl), ⟨fun q => ?_, fun _ _ _ _ q => ?_⟩⟩
  · obtain ⟨_, _, _, _, _, _, _, _, _, _, _, z⟩ := q; exact False.elim z
  · obtain ⟨_, _, _, _, _, _, _, _, _, _, _, z⟩ := q; exact False.elim z
include T X0 G0 in
theorem zero_l_colour : FnH P w K mg base 0 "_law_colour" (spP (fx K w) 5 (env 0).p_l_colour) := by
  obtain ⟨fd, FD⟩ := T.sy.d.def_ 33 (d := ⟨("_law_colour", none), "_law_colour", "_law_colour", defArgs (top 50), defBody (top 50), defScope (top 50), [], []⟩) rfl
  refine ⟨_, fd, ["_law_picture_here", "_law_n", "_law_m", "_law_i", "_law_j"], He.glo_ok X0 G0 (T.sy.d.fact 33 (f := .glo "_law_colour") rfl), FD.kp, FD.bindsN (fun _ _ _ _ _ _ us hl => match us, hl with | [_, _, _, _, _], _ => rfl), ⟨fun q => ?_, fun _ _ _ _ q => ?_⟩⟩
  · obtain ⟨_, _, _, _, _, z⟩ := q; exact False.elim z
  · obtain ⟨_, _, _, _, _, z⟩ := q; exact False.elim z
include T X0 G0 in
theorem zero_l_like : FnH P w K mg base 0 "_law_like" (spP (fx K w) 2 (env 0).p_l_like) := by
  obtain ⟨fd, FD⟩ := T.sy.d.def_ 34 (d := ⟨("_law_like", none), "_law_like", "_law_like", defArgs (top 51), defBody (top 51), defScope (top 51), [], []⟩) rfl
  refine ⟨_, fd, ["_law_actual", "_law_due"], He.glo_ok X0 G0 (T.sy.d.fact 34 (f := .glo "_law_like") rfl), FD.kp, FD.bindsN (fun _ _ _ _ _ _ us hl => match us, hl with | [_, _], _ => rfl), ⟨fun q => ?_, fun _ _ _ _ q => ?_⟩⟩
  · obtain ⟨_, _, _, _, _, z⟩ := q; exact False.elim z
  · obtain ⟨_, _, _, _, _, z⟩ := q; exact False.elim z
include T X0 G0 in
theorem zero_l_text : FnH P w K mg base 0 "_law_text" (spP (fx K w) 1 (env 0).p_l_text) := by
  obtain ⟨fd, FD⟩ := T.sy.d.def_ 35 (d := ⟨("_law_text", none), "_law_text", "_law_text", defArgs (top 52), defBody (top 52), defScope (top 52), [], []⟩) rfl
  refine ⟨_, fd, ["_law_region_here"], He.glo_ok X0 G0 (T.sy.d.fact 35 (f := .glo "_law_text") rfl), FD.kp, FD.bindsN (fun _ _ _ _ _ _ us hl => match us, hl with | [_], _ => rfl), ⟨fun q => ?_, fun _ _ _ _ q => ?_⟩⟩
  · obtain ⟨_, _, _, _, _, z⟩ := q; exact False.elim z
  · obtain ⟨_, _, _, _, _, z⟩ := q; exact False.elim z
include T X0 G0 in
theorem zero_law_k09 : FnH P w K mg base 0 "law" (spP (fx K w) 1 (env 0).p_law_k09) := by
  obtain ⟨fd, FD⟩ := T.sy.d.def_ 36 (d := ⟨("law", none), "law", "law", defArgs (top 53), defBody (top 53), defScope (top 53), [], []⟩) rfl
  refine ⟨_, fd, ["_law_script"], He.glo_ok X0 G0 (T.sy.d.fact 36 (f := .glo "law") rfl), FD.kp, FD.bindsN (fun _ _ _ _ _ _ us hl => match us, hl with | [_], _ => rfl), ⟨fun q => ?_, fun _ _ _ _ q => ?_⟩⟩
  · obtain ⟨_, _, _, _, _, z⟩ := q; exact False.elim z
  · obtain ⟨_, _, _, _, _, z⟩ := q; exact False.elim z
include T X0 G0 in
theorem lv : ∀ k, Lv P w K mg base k
  | 0 => ⟨zero_is_whole T X0 G0, zero_are_numbers T X0 G0, zero_is_nested T X0 G0, zero_is_region T X0 G0, zero_check_region T X0 G0, zero_inner_regions T X0 G0, zero_is_colour T X0 G0, zero_is_paint T X0 G0, zero_is_picture T X0 G0, zero_check_picture T X0 G0, zero_text_of T X0 G0, zero_write T X0 G0, zero_number_of T X0 G0, zero_numbers_of T X0 G0, zero_cut T X0 G0, zero_plain_in T X0 G0, zero_moved_in T X0 G0, zero_region_in T X0 G0, zero_brackets T X0 G0, zero_good_region T X0 G0, zero_read T X0 G0, zero_write_picture T X0 G0, zero_head_and_region T X0 G0, zero_is_name T X0 G0, zero_read_picture T X0 G0, zero_l_begin T X0 G0, zero_l_draw T X0 G0, zero_l_plain T X0 G0, zero_l_region T X0 G0, zero_l_row T X0 G0, zero_l_has T X0 G0, zero_l_cells T X0 G0, zero_l_picture T X0 G0, zero_l_colour T X0 G0, zero_l_like T X0 G0, zero_l_text T X0 G0, zero_law_k09 T X0 G0⟩
  | k + 1 => ⟨ok_is_whole T X0 G0 (lv k), ok_are_numbers T X0 G0 (lv k), ok_is_nested T X0 G0 (lv k), ok_is_region T X0 G0 (lv k), ok_check_region T X0 G0 (lv k), ok_inner_regions T X0 G0 (lv k), ok_is_colour T X0 G0 (lv k), ok_is_paint T X0 G0 (lv k), ok_is_picture T X0 G0 (lv k), ok_check_picture T X0 G0 (lv k), ok_text_of T X0 G0 (lv k), ok_write T X0 G0 (lv k), ok_number_of T X0 G0 (lv k), ok_numbers_of T X0 G0 (lv k), ok_cut T X0 G0 (lv k), ok_plain_in T X0 G0 (lv k), ok_moved_in T X0 G0 (lv k), ok_region_in T X0 G0 (lv k), ok_brackets T X0 G0 (lv k), ok_good_region T X0 G0 (lv k), ok_read T X0 G0 (lv k), ok_write_picture T X0 G0 (lv k), ok_head_and_region T X0 G0 (lv k), ok_is_name T X0 G0 (lv k), ok_read_picture T X0 G0 (lv k), ok_l_begin T X0 G0 (lv k), ok_l_draw T X0 G0 (lv k), ok_l_plain T X0 G0 (lv k), ok_l_region T X0 G0 (lv k), ok_l_row T X0 G0 (lv k), ok_l_has T X0 G0 (lv k), ok_l_cells T X0 G0 (lv k), ok_l_picture T X0 G0 (lv k), ok_l_colour T X0 G0 (lv k), ok_l_like T X0 G0 (lv k), ok_l_text T X0 G0 (lv k), ok_law_k09 T X0 G0 (lv k)⟩
end
abbrev R : PySem.W.OpenRow := PySem.W.OpenLaw.row PySem.Challenge.rw_anysheet_k09_texts_there_and_back
abbrev hk : PySem.W.Hook := He.hookX 6 fcs dfs tbs [] exs
def ob (s : PySem.W.SharedT) : He.AlX := He.obsX 6 fcs dfs tbs [] exs (HandSHeadRun.getT s)
theorem ob_eq (s : PySem.W.SharedT) : ob s = hk.obs s.abs := He.obsX_eq (HandSHeadRun.getT_eq s)
def loose : List Str := (["SheetError", "BadRegion", "BadPicture", "BadText", "BadLine", "MOST_DEEP", "PLAIN", "INNER", "WORDS", "is_whole", "are_numbers", "is_nested", "is_region", "check_region", "inner_regions", "SMALL", "MOST_PAINTS", "is_colour", "is_paint", "is_picture"] : List Str) ++ (["check_picture", "FIGURES", "text_of", "write", "number_of", "numbers_of", "cut", "plain_in", "moved_in", "region_in", "brackets", "good_region", "read", "write_picture", "head_and_region", "is_name", "read_picture", "_law_begin", "_law_draw", "_law_plain"] : List Str) ++ (["_law_region", "_law_row", "_law_has", "_law_cells", "_law_picture", "_law_colour", "_law_like", "_law_text"] : List Str)
theorem run1 (b : Bool) (w : World) : HandSHeadRun.RunEq R (PySem.W.view R.prog [53]) hk ob 20000 loose (w.withFollow "special-get-raises" b) := by
  intro os
  cases b <;> kernel_rfl
theorem run (w : World) : HandSHeadRun.RunEq R (PySem.W.view R.prog [53]) hk ob 20000 loose w := PySem.W.byRow2 "special-get-raises" (P := fun w => HandSHeadRun.RunEq R (PySem.W.view R.prog [53]) hk ob 20000 loose w) (fun w => run1 false w) (fun w => run1 true w) w
theorem facts {P : Program} {w : World} {K : PySem.W.Frag} {h : Heap} {mg : Str → Option Value} {f : Addr} (X : K.In h) (G : h.Ns mainGlobals mg) (hfa : mg ("law" : Str) = some (.ref f)) (c : He.SaysX fcs dfs tbs [] exs w h K) (k : Nat) :
    ∃ fd : FuncData, (∀ (s : Shared) (v : Value), BindsTo s fd ⟨[v], []⟩ [("_law_script", v)]) ∧ ∀ base : Heap, FnG P w K mg base (L2.CX P w) (k + 1) f fd ["_law_script"] (spP (fx K w) 1 (env (k + 1)).p_law_k09) := by
  have T := txt_of X G c.t c.more
  obtain ⟨fd, FD⟩ := T.sy.d.def_ 36 (d := ⟨("law", none), "law", "law", defArgs (top 53), defBody (top 53), defScope (top 53), [], []⟩) rfl
  have m1 := He.glo_ok X G (T.sy.d.fact 36 (f := .glo "law") rfl)
  have e := hfa.symm.trans m1
  cases e
  have b := FunD.bindsA (ps := ["_law_script"]) FD fun _ _ _ _ _ _ us hl => match us, hl with | [_], _ => rfl
  refine ⟨fd, fun s v => b s [v] rfl, fun base => ?_⟩
  exact fo_law_k09 T X G (lv T X G k) FD
end Pl

set_option maxHeartbeats 0
/-! printed by gen.py: the end of law k09. -/
namespace Pl
open PySem PySem.Spec PyProof.Rows L2 RZ PySem.W PySem.Calls
theorem end_of (n : Nat) (hr : RoomG (n + 1) callerA) (L : ∀ ns : List Int, ns.length ≤ 63 → (env (n + 1)).p_law_k09 [.scr ns] = .ok (.bl true)) : PySem.Challenge.rw_anysheet_k09_texts_there_and_back.Holds := by
  w_on; o_law
  refine HandSHeadRun.head_any (r := R) (q := PySem.W.view R.prog [53]) (H := hk) (ob := ob) (M := 20000) (loose := loose) (d := HandSHeadRun.topDef R.prog 53) (kwd := []) ob_eq
    (by kernel_rfl) (fun s => by kernel_rfl) run (by kernel_rfl) (by kernel_rfl) (by kernel_rfl) (by rfl) (by first | assumption | decide +kernel) (by decide +kernel) ⟨rfl, rfl, rfl, rfl, rfl, by decide +kernel⟩ ?hw ?hc
  case hw => w_witness2
  case hc =>
    refine walk_g (l := PySem.Challenge.rw_anysheet_k09_texts_there_and_back) (n := 63) (k := n + 1) (x := "_law_script") (CX := fun w => L2.CX R.prog w) (sp := fun w K => spP (fx K w) 1 (env (n + 1)).p_law_k09) rfl (by decide) (by kernel_rfl) hr ?F ?C
    case C =>
      intro w H s e s' h
      obtain ⟨_, _, _, _, _, _, _, _, _, _, _, _, z⟩ := h
      exact z
    case F =>
      intro w mg fa h Y G hmg0
      obtain ⟨K, KX, c⟩ := Y
      have hmg : mg ("law" : PySem.Str) = some (.ref fa) := by
        have e : (HandSHeadRun.topDef R.prog 53).name = ("law" : PySem.Str) := by kernel_rfl
        rw [← e]
        exact hmg0
      obtain ⟨fd, hb, hF⟩ := facts (P := R.prog) (w := w) KX G hmg c n
      refine ⟨K, KX, fd, hb, fun H a ns hl hS => ?_, hF⟩
      refine ⟨rfl, H, [.scr ns], Same.refl H, .cons (.scr hS) .nil, ?_⟩
      rw [L ns hl]
      intro v G' H' g r
      cases r
      rfl
end Pl

set_option maxHeartbeats 4000000
/-! QD: the draws. -/
namespace Pl
open PySem PySem.Spec PyProof.Rows L2
def Sd (ns : List Int) (p : Nat) (a b : Int) : PV := .lst [.lst (ns.map PV.int), .int (p : Int), .int a, .int b]
/-- a state of the draws -/
def IsSd (ns : List Int) (c : PV) : Prop := ∃ (p : Nat) (a b : Int), 0 ≤ a ∧ c = Sd ns p a b
theorem if_tt {t : DD Bool} {a b : DS} {ρ : Rho} {k : Bool} (h : t ρ = .ok k ρ) (hk : k = true) : sIf t a b ρ = a ρ := by
  subst hk
  simp [sIf, h, Res.toOut]
theorem if_ff {t : DD Bool} {a b : DS} {ρ : Rho} {k : Bool} (h : t ρ = .ok k ρ) (hk : k = false) : sIf t a b ρ = b ρ := by
  subst hk
  simp [sIf, h, Res.toOut]
theorem seq_nx {d t : DS} {ρ ρ' : Rho} (h : d ρ = .nx ρ') : sSeq d t ρ = t ρ' := by
  simp [sSeq, h, Out.thn]
theorem seq_rt {d t : DS} {ρ ρ' : Rho} {p : PV} (h : d ρ = .rt p ρ') : sSeq d t ρ = .rt p ρ' := by
  simp [sSeq, h, Out.thn]
theorem set_nx {d : DE} {i : Nat} {ρ ρ' : Rho} {x : PV} (h : d ρ = .ok x ρ') : sSet i d ρ = .nx (ρ'.set i (some (.val x))) := by
  simp [sSet, h, Res.toOut]
theorem at_ints (ns : List Int) (p : Nat) (h : p < ns.length) : pIx (.lst (ns.map PV.int)) (.int (p : Int)) = some (.int ns[p]) := by
  have e : ((p : Int) < (ns.length : Int)) := by omega
  simp [pIx, atI, ixN, e, h]
def R4 (c : PV) (size : Int) (x y : Option SV) : Rho := [some (.inp c), some (.val (.int size)), x, y]
theorem draw_ok (ns : List Int) {c : PV} (hc : IsSd ns c) (e : Nat) {size : Int} (hs : 0 < size) (hs2 : size < 1000) : ∃ r c', (env (e + 1)).i_l_draw c [.int size] = .ok (.int r) c' ∧ IsSd ns c' ∧ 0 ≤ r ∧ r < size := by
  obtain ⟨p, a, b, ha, rfl⟩ := hc
  show ∃ r c', runI 4 (d_l_draw (env e)) _ _ = _ ∧ _
  generalize env e = E
  -- the state behind the first half
  have h1 : ∃ p' a' b' x', 0 ≤ a' ∧ (sIf (dAsB (dBin pEq (dIxM 0 (dC (.int 2))) (dC (.int 0)))) (sIf (dAsB (dBin pLt (dIxM 0 (dC (.int 1))) (dFun fLen (dCons (dIxM 0 (dC (.int 0))) dNil)))) (sSeq (sSet 2 (dBin pIx (dIxM 0 (dC (.int 0))) (dIxM 0 (dC (.int 1)))))
    (sSeq (sPut 0 (dBin pAdd (dIxM 0 (dC (.int 1))) (dC (.int 1))) (dC (.int 1)))
    (sIf (dAsB (dBin pGe (dVar 2) (dBin pPow (dC (.int 10)) (dC (.int 18))))) (sPut 0 (dVar 2) (dC (.int 2))) (sPut 0 (dBin pMod (dFun fIntA (dCons (dBin pAdd (dBin pAdd (dBin pMul (dIxM 0 (dC (.int 3))) (dC (.int 48271))) (dBin pMul (dVar 2) (dC (.int 69621)))) (dC (.int 11))) dNil)) (dC (.int 2147483647))) (dC (.int 3)))))) (sPut 0 (dBin pMod (dFun fIntA (dCons (dBin pAdd (dBin pMul (dIxM 0 (dC (.int 3))) (dC (.int 48271))) (dC (.int 7))) dNil)) (dC (.int 2147483647))) (dC (.int 3)))) sNil) (R4 (Sd ns p a b) size none none) = .nx (R4 (Sd ns p' a' b') size x' none) := by
    by_cases h0 : a = 0
    · subst h0
      by_cases hp : p < ns.length
      · have c3 : decide (((p : Int)) < ((ns.map PV.int).length : Int)) = true := by simp; exact hp
        have k : ∀ {ρ : Rho}, ofO (pIx (.lst (ns.map PV.int)) (.int (p : Int))) ρ = .ok (.int ns[p]) ρ := by
          intro ρ
          rw [at_ints ns p hp]
          rfl
        have s1 : sSet 2 (dBin pIx (dIxM 0 (dC (.int 0))) (dIxM 0 (dC (.int 1)))) (R4 (Sd ns p 0 b) size none none) = .nx (R4 (Sd ns p 0 b) size (some (.val (.int ns[p]))) none) := by
          refine Eq.trans (set_nx (ρ' := R4 (Sd ns p 0 b) size none none) (x := .int ns[p]) (Eq.trans ?_ k)) rfl
          kernel_rfl
        generalize ns[p] = z at *
        have m1 : ∀ b : Int, pMul (.int b) (.int 48271) = some (.int (b * 48271)) := fun b => by simp [pMul]
        have m2 : ∀ b : Int, pMul (.int b) (.int 69621) = some (.int (b * 69621)) := fun b => by simp [pMul]
        by_cases hz : (1000000000000000000 : Int) ≤ z
        · refine ⟨p + 1, z, b, some (.val (.int z)), by omega, ?_⟩
          refine Eq.trans (if_tt (k := decide ((0:Int) = 0)) (by kernel_rfl) rfl) ?_
          refine Eq.trans (if_tt (k := decide (((p : Int)) < ((ns.map PV.int).length : Int))) (by kernel_rfl) c3) ?_
          refine Eq.trans (seq_nx s1) ?_
          refine Eq.trans (seq_nx (ρ' := R4 (Sd ns (p + 1) 0 b) size (some (.val (.int z))) none) (by kernel_rfl)) ?_
          refine Eq.trans (if_tt (k := decide ((1000000000000000000 : Int) ≤ z)) (by kernel_rfl) (decide_eq_true hz)) ?_
          kernel_rfl
        · refine ⟨p + 1, 0, (b * 48271 + z * 69621 + 11) % 2147483647, some (.val (.int z)), by omega, ?_⟩
          refine Eq.trans (if_tt (k := decide ((0:Int) = 0)) (by kernel_rfl) rfl) ?_
          refine Eq.trans (if_tt (k := decide (((p : Int)) < ((ns.map PV.int).length : Int))) (by kernel_rfl) c3) ?_
          refine Eq.trans (seq_nx s1) ?_
          refine Eq.trans (seq_nx (ρ' := R4 (Sd ns (p + 1) 0 b) size (some (.val (.int z))) none) (by kernel_rfl)) ?_
          refine Eq.trans (if_ff (k := decide ((1000000000000000000 : Int) ≤ z)) (by kernel_rfl) (decide_eq_false hz)) ?_
          simp [sPut, dBin, dFun, dCons, dNil, dIxM, dC, dVar, R4, Sd, isLstM, slotM, putM, Res.bind, Res.toOut, ofO, pIx, atI, ixN, m1, m2, pAdd, pMod, fIntA]
      · have c3 : decide (((p : Int)) < ((ns.map PV.int).length : Int)) = false := by simp; omega
        have m1 : ∀ b : Int, pMul (.int b) (.int 48271) = some (.int (b * 48271)) := fun b => by simp [pMul]
        refine ⟨p, 0, (b * 48271 + 7) % 2147483647, none, by omega, ?_⟩
        refine Eq.trans (if_tt (k := decide ((0:Int) = 0)) (by kernel_rfl) rfl) ?_
        refine Eq.trans (if_ff (k := decide (((p : Int)) < ((ns.map PV.int).length : Int))) (by kernel_rfl) c3) ?_
        simp [sPut, dBin, dFun, dCons, dNil, dIxM, dC, dVar, R4, Sd, isLstM, slotM, putM, Res.bind, Res.toOut, ofO, pIx, atI, ixN, m1, pAdd, pMod, fIntA]
    · refine ⟨p, a, b, none, ha, ?_⟩
      have h2 : (a == 0) = false := by simpa using h0
      exact Eq.trans (if_ff (k := (a == 0)) (by kernel_rfl) h2) rfl
  obtain ⟨p', a', b', x', ha', h1⟩ := h1
  have h2 : ∃ r c' y', IsSd ns c' ∧ 0 ≤ r ∧ r < size ∧ (sSeq (sIf (dAsB (dBin pGt (dIxM 0 (dC (.int 2))) (dC (.int 0)))) (sSeq (sSet 3 (dBin pMod (dFun fIntA (dCons (dIxM 0 (dC (.int 2))) dNil)) (dVar 1)))
    (sSeq (sPut 0 (dBin pDiv (dIxM 0 (dC (.int 2))) (dVar 1)) (dC (.int 2)))
    (sRet (dVar 3)))) sNil)
    (sRet (dBin pMod (dBin pMod (dFun fIntA (dCons (dBin pMul (dIxM 0 (dC (.int 3))) (dC (.int 16807))) dNil)) (dC (.int 2147483629))) (dVar 1)))) (R4 (Sd ns p' a' b') size x' none) = .rt (.int r) (R4 c' size x' y') := by
    by_cases h0 : 0 < a'
    · have l : size.natAbs.log2 < 9000 := by
        have : size.natAbs.log2 ≤ size.natAbs := Nat.log2_le_self _
        omega
      refine ⟨a' % size, Sd ns p' (a' / size) b', some (.val (.int (a' % size))), ⟨p', a' / size, b', Int.ediv_nonneg ha' (by omega), rfl⟩, Int.emod_nonneg _ (by omega), Int.emod_lt_of_pos _ hs, ?_⟩
      refine seq_rt (Eq.trans (if_tt (k := decide (0 < a')) (by kernel_rfl) (decide_eq_true h0)) ?_)
      simp [sSeq, sSet, sRet, sPut, dBin, dFun, dCons, dNil, dIxM, dC, dVar, R4, Sd, isLstM, slotM, putM, Res.bind, Res.toOut, Out.thn, ofO, pIx, atI, ixN, pMod, pDiv, fIntA, hs, l]
    · have m1 : ∀ b : Int, pMul (.int b) (.int 16807) = some (.int (b * 16807)) := fun b => by simp [pMul]
      refine ⟨b' * 16807 % 2147483629 % size, Sd ns p' a' b', none, ⟨p', a', b', ha', rfl⟩, Int.emod_nonneg _ (by omega), Int.emod_lt_of_pos _ hs, ?_⟩
      refine Eq.trans (seq_nx (Eq.trans (if_ff (k := decide (0 < a')) (by kernel_rfl) (decide_eq_false h0)) rfl)) ?_
      simp [sSeq, sSet, sRet, sPut, dBin, dFun, dCons, dNil, dIxM, dC, dVar, R4, Sd, isLstM, slotM, putM, Res.bind, Res.toOut, Out.thn, ofO, pIx, atI, ixN, pMod, pDiv, fIntA, hs, m1]
  obtain ⟨r, c', y', i', r0, r1, h2⟩ := h2
  refine ⟨r, c', ?_, i', r0, r1⟩
  have h3 : d_l_draw E (R4 (Sd ns p a b) size none none) = .rt (.int r) (R4 c' size x' y') := by
    unfold d_l_draw
    exact Eq.trans (seq_nx h1) h2
  unfold runI
  rw [show (some (SV.inp (Sd ns p a b)) :: [PV.int size].map (fun p => some (SV.val p)) ++ List.replicate (4 - ([PV.int size].length + 1)) none) = R4 (Sd ns p a b) size none none from rfl]
  rw [h3]
  rfl
theorem pick_in {l : List PV} {k : Int} (h1 : 0 ≤ k) (h2 : k < l.length) : ∃ p ∈ l, atI l k = some p := by
  obtain ⟨j, rfl⟩ : ∃ j : Nat, k = j := ⟨k.toNat, by omega⟩
  have hj : j < l.length := by omega
  exact ⟨l[j], List.getElem_mem hj, by rw [at_nat]; simp [hj]⟩
end Pl

set_option maxHeartbeats 4000000
/-! QR: regions as a type; they are regions to the program. -/
namespace Pl
open PySem PySem.Spec PyProof.Rows L2

inductive Rg where
  | all | none
  | high (a : Int) | wide (a : Int) | border (a : Int)
  | rows (a k : Int) | rowsUp (a k : Int) | cols (a k : Int) | colsBack (a k : Int)
  | and (x y : Rg) | or (x y : Rg)
  | not (x : Rg) | mirror (x : Rg) | flip (x : Rg) | turn (x : Rg)
  | move (p q : Int) (x : Rg)
namespace Rg
def pv : Rg → PV
  | .all => .tup [.str "all"]
  | .none => .tup [.str "none"]
  | .high a => .tup [.str "high", .int a]
  | .wide a => .tup [.str "wide", .int a]
  | .border a => .tup [.str "border", .int a]
  | .rows a k => .tup [.str "rows", .int a, .int k]
  | .rowsUp a k => .tup [.str "rows_up", .int a, .int k]
  | .cols a k => .tup [.str "cols", .int a, .int k]
  | .colsBack a k => .tup [.str "cols_back", .int a, .int k]
  | .and x y => .tup [.str "and", x.pv, y.pv]
  | .or x y => .tup [.str "or", x.pv, y.pv]
  | .not x => .tup [.str "not", x.pv]
  | .mirror x => .tup [.str "mirror", x.pv]
  | .flip x => .tup [.str "flip", x.pv]
  | .turn x => .tup [.str "turn", x.pv]
  | .move p q x => .tup [.str "move", .int p, .int q, x.pv]
def dep : Rg → Nat
  | .and x y => max x.dep y.dep + 1
  | .or x y => max x.dep y.dep + 1
  | .not x => x.dep + 1
  | .mirror x => x.dep + 1
  | .flip x => x.dep + 1
  | .turn x => x.dep + 1
  | .move _ _ x => x.dep + 1
  | _ => 1
/-- its numbers are as they ought to be -/
def Ok : Rg → Prop
  | .high a => 0 ≤ a ∧ a ≤ 9
  | .wide a => 0 ≤ a ∧ a ≤ 9
  | .border a => 0 ≤ a ∧ a ≤ 9
  | .rows a k => (0 ≤ a ∧ a ≤ 9) ∧ 0 ≤ k ∧ k ≤ 6
  | .rowsUp a k => (0 ≤ a ∧ a ≤ 9) ∧ 0 ≤ k ∧ k ≤ 6
  | .cols a k => (0 ≤ a ∧ a ≤ 9) ∧ 0 ≤ k ∧ k ≤ 6
  | .colsBack a k => (0 ≤ a ∧ a ≤ 9) ∧ 0 ≤ k ∧ k ≤ 6
  | .and x y => x.Ok ∧ y.Ok
  | .or x y => x.Ok ∧ y.Ok
  | .not x => x.Ok
  | .mirror x => x.Ok
  | .flip x => x.Ok
  | .turn x => x.Ok
  | .move p q x => (-6 ≤ p ∧ p ≤ 6) ∧ (-6 ≤ q ∧ q ≤ 6) ∧ x.Ok
  | _ => True
def row (p a k : Int) : Bool := if k = 0 then p == a else (decide (a ≤ p) && (p - a) % k == 0)
def has : Rg → Int → Int → Int → Int → Bool
  | .all, _, _, _, _ => true
  | .none, _, _, _, _ => false
  | .high a, n, _, _, _ => decide (a ≤ n)
  | .wide a, _, m, _, _ => decide (a ≤ m)
  | .border a, n, m, i, j => decide (min (min i (n - 1 - i)) (min j (m - 1 - j)) < a)
  | .rows a k, _, _, i, _ => row i a k
  | .rowsUp a k, n, _, i, _ => row (n - 1 - i) a k
  | .cols a k, _, _, _, j => row j a k
  | .colsBack a k, _, m, _, j => row (m - 1 - j) a k
  | .and x y, n, m, i, j => x.has n m i j && y.has n m i j
  | .or x y, n, m, i, j => x.has n m i j || y.has n m i j
  | .not x, n, m, i, j => !x.has n m i j
  | .mirror x, n, m, i, j => x.has n m (n - 1 - i) j
  | .flip x, n, m, i, j => x.has n m i (m - 1 - j)
  | .turn x, n, m, i, j => x.has m n j i
  | .move p q x, n, m, i, j => (decide (0 ≤ i - p) && decide (i - p < n)) && ((decide (0 ≤ j - q) && decide (j - q < m)) && x.has n m (i - p) (j - q))
end Rg

/-! ### what stands behind a return is not reached -/
theorem if_seq (c : DD Bool) (a b t : DS) : sSeq (sIf c a b) t = sIf c (sSeq a t) (sSeq b t) := by
  funext ρ
  unfold sSeq sIf
  cases c ρ with
  | ok k ρ => cases k <;> rfl
  | exc c as ρ => rfl
  | stuck => rfl
theorem nil_seq (t : DS) : sSeq sNil t = t := rfl
theorem ret_seq (u : DE) (t : DS) : sSeq (sRet u) t = sRet u := by
  funext ρ
  unfold sSeq sRet
  cases u ρ <;> rfl
theorem seq_seq (a b t : DS) : sSeq (sSeq a b) t = sSeq a (sSeq b t) := by
  funext ρ
  unfold sSeq
  cases a ρ <;> rfl
theorem raise_seq (c : Nat) (t : DS) : sSeq (sRaise c) t = sRaise c := rfl
/-- what is known already, as a meaning -/
def dVs (xs : List PV) : DD (List PV) := fun ρ => .ok xs ρ
theorem pEq_int (i j : Int) : pEq (.int i) (.int j) = some (.bl (i == j)) := rfl
/-- the rows' rule, both accounts -/
theorem row_of {d : DS} (hd : ∀ p a k : Int, runB 3 d [.int p, .int a, .int k] = runB 3 (sSeq (sIf (dAsB (dBin pEq (dVar 2) (dC (.int 0)))) (sRet (dBin pEq (dVar 0) (dVar 1))) sNil)
    (sRet (dAndV (dBin pGe (dVar 0) (dVar 1)) (dBin pEq (dBin pMod (dBin pSub (dVar 0) (dVar 1)) (dVar 2)) (dC (.int 0)))))) [.int p, .int a, .int k]) (p a k : Int) (hk : 0 ≤ k) :
    runB 3 d [.int p, .int a, .int k] = .ok (.bl (Rg.row p a k)) := by
  rw [hd]
  unfold Rg.row
  by_cases h : k = 0
  · subst h
    rfl
  · have h1 : (k == 0) = false := by simpa using h
    have h2 : 0 < k := by omega
    rw [if_neg h]
    by_cases h3 : a ≤ p
    · rw [runB_fin]
      simp [st0, h, h1, h2, h3]
      exact (Bool.beq_eq_decide_eq _ _).symm
    · rw [runB_fin]
      simp [st0, h, h1, h2, h3]
theorem run_call {f : List PV → FR} {xs : List PV} {p : PV} (h : f xs = .ok p) (n : Nat) (ps : List PV) : runB n (sRet (dCall f (dVs xs))) ps = .ok p := by
  simp [runB, sRet, dCall, dVs, Res.bind, h, Res.toOut]
theorem run_notc {f : List PV → FR} {xs : List PV} {b : Bool} (h : f xs = .ok (.bl b)) (n : Nat) (ps : List PV) : runB n (sRet (dNotV (dCall f (dVs xs)))) ps = .ok (.bl (!b)) := by
  simp [runB, sRet, dNotV, dCall, dVs, Res.bind, h, Res.toOut]
theorem run_and' {f : List PV → FR} {u : DE} {xs : List PV} {b c : Bool} (h : f xs = .ok (.bl b)) (n : Nat) (ps : List PV) (h2 : runB n (sRet u) ps = .ok (.bl c)) : runB n (sRet (dAndV (dCall f (dVs xs)) u)) ps = .ok (.bl (b && c)) := by
  cases b
  · simp [runB, sRet, dAndV, dCall, dVs, Res.bind, h, Res.toOut]
  · refine Eq.trans ?_ h2
    simp [runB, sRet, dAndV, dCall, dVs, Res.bind, h, Res.toOut]
theorem run_or' {f : List PV → FR} {u : DE} {xs : List PV} {b c : Bool} (h : f xs = .ok (.bl b)) (n : Nat) (ps : List PV) (h2 : runB n (sRet u) ps = .ok (.bl c)) : runB n (sRet (dOrV (dCall f (dVs xs)) u)) ps = .ok (.bl (b || c)) := by
  cases b
  · refine Eq.trans ?_ h2
    simp [runB, sRet, dOrV, dCall, dVs, Res.bind, h, Res.toOut]
  · simp [runB, sRet, dOrV, dCall, dVs, Res.bind, h, Res.toOut]
theorem call_ok {f : List PV → FR} {xs : List PV} {p : PV} {ρ : Rho} (h : f xs = .ok p) : dCall f (dVs xs) ρ = .ok p ρ := by
  simp [dCall, dVs, Res.bind, h]
/-- 0 <= x < n and 0 <= y < m and what a call says -/
theorem run_mv {dx dy dn dm u : DE} {b : Bool} {x y n m : Int} (k : Nat) (ps : List PV) (hx : dx (st0 k ps) = .ok (.int x) (st0 k ps)) (hn : dn (st0 k ps) = .ok (.int n) (st0 k ps)) (hy : dy (st0 k ps) = .ok (.int y) (st0 k ps)) (hm : dm (st0 k ps) = .ok (.int m) (st0 k ps))
    (hu : u (st0 k ps) = .ok (.bl b) (st0 k ps)) :
    runB k (sRet (dAndV (dChain pLe pLt (dC (.int 0)) dx dn) (dAndV (dChain pLe pLt (dC (.int 0)) dy dm) u))) ps =
      .ok (.bl ((decide (0 ≤ x) && decide (x < n)) && ((decide (0 ≤ y) && decide (y < m)) && b))) := by
  unfold runB
  rw [show (ps.map (fun p => some (SV.val p)) ++ List.replicate (k - ps.length) none) = st0 k ps from rfl]
  generalize st0 k ps = ρ at *
  by_cases h1 : 0 ≤ x <;> by_cases h2 : x < n <;> by_cases h3 : 0 ≤ y <;> by_cases h4 : y < m <;>
    simp [sRet, dAndV, dChain, dC, pLe, pLt, Res.bind, ofO, Res.toOut, hx, hy, hn, hm, hu, h1, h2, h3, h4]

def leaf : Rg → Bool
  | .and _ _ | .or _ _ | .not _ | .mirror _ | .flip _ | .turn _ | .move _ _ _ => false
  | _ => true
theorem dep_pos (r : Rg) : 1 ≤ r.dep := by cases r <;> simp [Rg.dep]
theorem run_if_f {t : DD Bool} {a b : DS} (k : Nat) (ps : List PV) (h : t (st0 k ps) = .ok false (st0 k ps)) : runB k (sIf t a b) ps = runB k b ps := by
  unfold runB
  rw [show (ps.map (fun p => some (SV.val p)) ++ List.replicate (k - ps.length) none) = st0 k ps from rfl]
  simp [sIf, h, Res.toOut]
theorem run_if_t {t : DD Bool} {a b : DS} (k : Nat) (ps : List PV) (h : t (st0 k ps) = .ok true (st0 k ps)) : runB k (sIf t a b) ps = runB k a ps := by
  unfold runB
  rw [show (ps.map (fun p => some (SV.val p)) ++ List.replicate (k - ps.length) none) = st0 k ps from rfl]
  simp [sIf, h, Res.toOut]
theorem run_ret {d : DE} {p : PV} {ρ : Rho} (k : Nat) (ps : List PV) (h : d (st0 k ps) = .ok p ρ) : runB k (sRet d) ps = .ok p := by
  unfold runB
  rw [show (ps.map (fun p => some (SV.val p)) ++ List.replicate (k - ps.length) none) = st0 k ps from rfl]
  simp [sRet, h, Res.toOut]
theorem compL_all {g : Tg} {body : DE} {ρ : Rho} : ∀ {ps : List PV}, (∀ p ∈ ps, ∃ ρ1, g.set p ρ = some ρ1 ∧ ∃ ρ2, body ρ1 = .ok (.bl true) ρ2) → compL g tyesD body ρ ps = some (List.replicate ps.length (.bl true))
  | [], _ => rfl
  | p :: ps, h => by
    obtain ⟨ρ1, h1, ρ2, h2⟩ := h p List.mem_cons_self
    have ih := compL_all (ps := ps) fun q hq => h q (List.mem_cons_of_mem _ hq)
    unfold compL
    rw [h1]
    simp only [tyesD, h2, ih, Option.map_some, List.length_cons, List.replicate_succ]
theorem allBl_rep : ∀ n : Nat, allBl (List.replicate n (.bl true)) = some (List.replicate n true)
  | 0 => rfl
  | n + 1 => by
    simp only [List.replicate_succ, allBl, allBl_rep n, Option.map_some]
theorem comp_all {vs : List Nat} {g : Tg} {di : DD (List PV)} {body : DE} {ρ : Rho} {ps : List PV} (hd : di ρ = .ok ps ρ) (hl : ps.length ≤ LIM) (h : ∀ p ∈ ps, ∃ ρ1, g.set p (wipeR (valsOf ρ) vs) = some ρ1 ∧ ∃ ρ2, body ρ1 = .ok (.bl true) ρ2) :
    dFun fAll (dCons (dComp vs g di tyesD body) dNil) ρ = .ok (.bl true) ρ := by
  simp [dFun, dCons, dComp, dNil, hd, Res.bind, compL_all h, hl, fAll, ofO, allBl_rep]
theorem is_whole_t (e : Nat) {v lo hi : Int} (h1 : lo ≤ v) (h2 : v ≤ hi) : (env (e + 1)).p_is_whole [.int v, .int lo, .int hi] = .ok (.bl true) := by
  show runB 3 (d_is_whole (env e)) _ = _
  have c : dChain pLe pLe (dVar 1) (dVar 0) (dVar 2) (st0 3 [.int v, .int lo, .int hi]) = .ok (.bl true) (st0 3 [.int v, .int lo, .int hi]) := by
    simp [dChain, dVar, st0, Res.bind, ofO, pLe, h1, h2]
  refine Eq.trans ?_ (run_ret 3 [.int v, .int lo, .int hi] c)
  kernel_rfl
theorem numbers1 (e : Nat) {a : Int} (h1 : 0 ≤ a) (h2 : a ≤ 9) : (env (e + 2)).p_are_numbers [.tup [.str "a"], .tup [.int a]] = .ok (.bl true) := by
  show runB 4 (d_are_numbers (env (e + 1))) _ = _
  unfold d_are_numbers
  simp only [if_seq, nil_seq, ret_seq, seq_seq]
  have w := is_whole_t e h1 h2
  revert w
  generalize env (e + 1) = E
  intro w
  refine Eq.trans (run_if_f 4 [.tup [.str "a"], .tup [.int a]] (by kernel_rfl)) (run_ret 4 _ (comp_all (ps := [.tup [.str "a", .int a]]) (by kernel_rfl) (by simp [LIM]) ?_))
  intro p hp
  simp only [List.mem_cons, List.mem_nil_iff, or_false] at hp
  subst hp
  exact ⟨_, rfl, _, Eq.trans (by kernel_rfl) (call_ok (ρ := [some (.val (.tup [.str "a"])), some (.val (.tup [.int a])), some (.val (.str "a")), some (.val (.int a))]) w)⟩
theorem numbers2 (e : Nat) {a k : Int} (h1 : 0 ≤ a) (h2 : a ≤ 9) (h3 : 0 ≤ k) (h4 : k ≤ 6) : (env (e + 2)).p_are_numbers [.tup [.str "a", .str "k"], .tup [.int a, .int k]] = .ok (.bl true) := by
  show runB 4 (d_are_numbers (env (e + 1))) _ = _
  unfold d_are_numbers
  simp only [if_seq, nil_seq, ret_seq, seq_seq]
  have w := is_whole_t e h1 h2
  have w2 := is_whole_t e h3 h4
  revert w w2
  generalize env (e + 1) = E
  intro w w2
  refine Eq.trans (run_if_f 4 [.tup [.str "a", .str "k"], .tup [.int a, .int k]] (by kernel_rfl)) (run_ret 4 _ (comp_all (ps := [.tup [.str "a", .int a], .tup [.str "k", .int k]]) (by kernel_rfl) (by simp [LIM]) ?_))
  intro p hp
  simp only [List.mem_cons, List.mem_nil_iff, or_false] at hp
  rcases hp with rfl | rfl
  · exact ⟨_, rfl, _, Eq.trans (by kernel_rfl) (call_ok (ρ := [some (.val (.tup [.str "a", .str "k"])), some (.val (.tup [.int a, .int k])), some (.val (.str "a")), some (.val (.int a))]) w)⟩
  · exact ⟨_, rfl, _, Eq.trans (by kernel_rfl) (call_ok (ρ := [some (.val (.tup [.str "a", .str "k"])), some (.val (.tup [.int a, .int k])), some (.val (.str "k")), some (.val (.int k))]) w2)⟩

theorem nested_leaf (r : Rg) (hl : leaf r = true) (ok : r.Ok) (e k : Nat) : (env (e + 3)).p_is_nested [r.pv, .int ((k : Int) + 1)] = .ok (.bl true) := by
  show runB 3 (d_is_nested (env (e + 2))) _ = _
  unfold d_is_nested
  simp only [if_seq, nil_seq, ret_seq, seq_seq]
  have n0 : (env (e + 2)).p_are_numbers [.tup [], .tup []] = .ok (.bl true) := by kernel_rfl
  have n1 : ∀ a : Int, 0 ≤ a → a ≤ 9 → (env (e + 2)).p_are_numbers [.tup [.str "a"], .tup [.int a]] = .ok (.bl true) := fun a => numbers1 e
  have n2 : ∀ a k : Int, 0 ≤ a → a ≤ 9 → 0 ≤ k → k ≤ 6 → (env (e + 2)).p_are_numbers [.tup [.str "a", .str "k"], .tup [.int a, .int k]] = .ok (.bl true) := fun a k => numbers2 e
  revert n0 n1 n2
  generalize env (e + 2) = E
  intro n0 n1 n2
  cases r with
  | all => exact Eq.trans (by kernel_rfl) (run_call n0 3 [(Rg.all).pv, .int ((k : Int) + 1)])
  | none => exact Eq.trans (by kernel_rfl) (run_call n0 3 [(Rg.none).pv, .int ((k : Int) + 1)])
  | high a => exact Eq.trans (by kernel_rfl) (run_call (n1 a ok.1 ok.2) 3 [(Rg.high a).pv, .int ((k : Int) + 1)])
  | wide a => exact Eq.trans (by kernel_rfl) (run_call (n1 a ok.1 ok.2) 3 [(Rg.wide a).pv, .int ((k : Int) + 1)])
  | border a => exact Eq.trans (by kernel_rfl) (run_call (n1 a ok.1 ok.2) 3 [(Rg.border a).pv, .int ((k : Int) + 1)])
  | rows a k2 => exact Eq.trans (by kernel_rfl) (run_call (n2 a k2 ok.1.1 ok.1.2 ok.2.1 ok.2.2) 3 [(Rg.rows a k2).pv, .int ((k : Int) + 1)])
  | rowsUp a k2 => exact Eq.trans (by kernel_rfl) (run_call (n2 a k2 ok.1.1 ok.1.2 ok.2.1 ok.2.2) 3 [(Rg.rowsUp a k2).pv, .int ((k : Int) + 1)])
  | cols a k2 => exact Eq.trans (by kernel_rfl) (run_call (n2 a k2 ok.1.1 ok.1.2 ok.2.1 ok.2.2) 3 [(Rg.cols a k2).pv, .int ((k : Int) + 1)])
  | colsBack a k2 => exact Eq.trans (by kernel_rfl) (run_call (n2 a k2 ok.1.1 ok.1.2 ok.2.1 ok.2.2) 3 [(Rg.colsBack a k2).pv, .int ((k : Int) + 1)])
  | _ => cases hl
theorem sub1 (k : Nat) : ((k : Int) + 1 - 1) = (k : Int) := by omega
theorem is_nested : ∀ (r : Rg) (ok : r.Ok) (e k : Nat), r.dep ≤ k → (env (e + r.dep + 2)).p_is_nested [r.pv, .int (k : Int)] = .ok (.bl true) := by
  intro r
  have base : ∀ (r : Rg) (hl : leaf r = true) (ok : r.Ok) (e k : Nat), 1 ≤ k → (env (e + 1 + 2)).p_is_nested [r.pv, .int (k : Int)] = .ok (.bl true) := by
    intro r hl ok e k h
    obtain ⟨k, rfl⟩ : ∃ j, k = j + 1 := ⟨k - 1, by omega⟩
    exact nested_leaf r hl ok e k
  induction r with
  | all => intro ok e k hk; exact base _ rfl ok e k hk
  | none => intro ok e k hk; exact base _ rfl ok e k hk
  | high a => intro ok e k hk; exact base _ rfl ok e k hk
  | wide a => intro ok e k hk; exact base _ rfl ok e k hk
  | border a => intro ok e k hk; exact base _ rfl ok e k hk
  | rows a k2 => intro ok e k hk; exact base _ rfl ok e k hk
  | rowsUp a k2 => intro ok e k hk; exact base _ rfl ok e k hk
  | cols a k2 => intro ok e k hk; exact base _ rfl ok e k hk
  | colsBack a k2 => intro ok e k hk; exact base _ rfl ok e k hk
  | and x y ihx ihy =>
    intro ok e k hk
    obtain ⟨k, rfl⟩ : ∃ j, k = j + 1 := ⟨k - 1, by simp only [Rg.dep] at hk; omega⟩
    simp only [Rg.dep] at hk
    have h1 := ihx ok.1 (e + (max x.dep y.dep - x.dep)) k (by have := Nat.le_max_left x.dep y.dep; omega)
    have h2 := ihy ok.2 (e + (max x.dep y.dep - y.dep)) k (by have := Nat.le_max_right x.dep y.dep; omega)
    have e1 : e + (max x.dep y.dep - x.dep) + x.dep + 2 = e + max x.dep y.dep + 2 := by have := Nat.le_max_left x.dep y.dep; omega
    have e2 : e + (max x.dep y.dep - y.dep) + y.dep + 2 = e + max x.dep y.dep + 2 := by have := Nat.le_max_right x.dep y.dep; omega
    rw [e1, ← sub1 k] at h1
    rw [e2, ← sub1 k] at h2
    show runB 3 (d_is_nested (env (e + (max x.dep y.dep) + 2))) _ = _
    unfold d_is_nested
    simp only [if_seq, nil_seq, ret_seq, seq_seq]
    revert h1 h2
    generalize env (e + (max x.dep y.dep) + 2) = E
    intro h1 h2
    refine Eq.trans ?_ (run_ret 3 [(Rg.and x y).pv, .int ((k : Int) + 1)] (comp_all (vs := [2]) (g := .one 2) (di := dItems (dSl (dVar 0) (some (dC (.int 1))) none)) (body := dCall E.p_is_nested (dCons (dVar 2) (dCons (dBin pSub (dVar 1) (dC (.int 1))) dNil))) (ps := [x.pv, y.pv]) ?_ (by simp [LIM]) ?_))
    · kernel_rfl
    · kernel_rfl
    · intro p hp
      simp only [List.mem_cons, List.mem_nil_iff, or_false] at hp
      rcases hp with rfl | rfl
      · exact ⟨_, rfl, _, Eq.trans (by kernel_rfl) (call_ok (ρ := [some (.val (Rg.and x y).pv), some (.val (.int ((k : Int) + 1))), some (.val x.pv)]) h1)⟩
      · exact ⟨_, rfl, _, Eq.trans (by kernel_rfl) (call_ok (ρ := [some (.val (Rg.and x y).pv), some (.val (.int ((k : Int) + 1))), some (.val y.pv)]) h2)⟩
  | or x y ihx ihy =>
    intro ok e k hk
    obtain ⟨k, rfl⟩ : ∃ j, k = j + 1 := ⟨k - 1, by simp only [Rg.dep] at hk; omega⟩
    simp only [Rg.dep] at hk
    have h1 := ihx ok.1 (e + (max x.dep y.dep - x.dep)) k (by have := Nat.le_max_left x.dep y.dep; omega)
    have h2 := ihy ok.2 (e + (max x.dep y.dep - y.dep)) k (by have := Nat.le_max_right x.dep y.dep; omega)
    have e1 : e + (max x.dep y.dep - x.dep) + x.dep + 2 = e + max x.dep y.dep + 2 := by have := Nat.le_max_left x.dep y.dep; omega
    have e2 : e + (max x.dep y.dep - y.dep) + y.dep + 2 = e + max x.dep y.dep + 2 := by have := Nat.le_max_right x.dep y.dep; omega
    rw [e1, ← sub1 k] at h1
    rw [e2, ← sub1 k] at h2
    show runB 3 (d_is_nested (env (e + (max x.dep y.dep) + 2))) _ = _
    unfold d_is_nested
    simp only [if_seq, nil_seq, ret_seq, seq_seq]
    revert h1 h2
    generalize env (e + (max x.dep y.dep) + 2) = E
    intro h1 h2
    refine Eq.trans ?_ (run_ret 3 [(Rg.or x y).pv, .int ((k : Int) + 1)] (comp_all (vs := [2]) (g := .one 2) (di := dItems (dSl (dVar 0) (some (dC (.int 1))) none)) (body := dCall E.p_is_nested (dCons (dVar 2) (dCons (dBin pSub (dVar 1) (dC (.int 1))) dNil))) (ps := [x.pv, y.pv]) ?_ (by simp [LIM]) ?_))
    · kernel_rfl
    · kernel_rfl
    · intro p hp
      simp only [List.mem_cons, List.mem_nil_iff, or_false] at hp
      rcases hp with rfl | rfl
      · exact ⟨_, rfl, _, Eq.trans (by kernel_rfl) (call_ok (ρ := [some (.val (Rg.or x y).pv), some (.val (.int ((k : Int) + 1))), some (.val x.pv)]) h1)⟩
      · exact ⟨_, rfl, _, Eq.trans (by kernel_rfl) (call_ok (ρ := [some (.val (Rg.or x y).pv), some (.val (.int ((k : Int) + 1))), some (.val y.pv)]) h2)⟩
  | not x ih =>
    intro ok e k hk
    obtain ⟨k, rfl⟩ : ∃ j, k = j + 1 := ⟨k - 1, by simp only [Rg.dep] at hk; omega⟩
    simp only [Rg.dep] at hk
    have h1 := ih ok e k (by omega)
    rw [← sub1 k] at h1
    show runB 3 (d_is_nested (env (e + (x.dep) + 2))) _ = _
    unfold d_is_nested
    simp only [if_seq, nil_seq, ret_seq, seq_seq]
    revert h1
    generalize env (e + (x.dep) + 2) = E
    intro h1
    refine Eq.trans ?_ (run_ret 3 [(Rg.not x).pv, .int ((k : Int) + 1)] (comp_all (vs := [2]) (g := .one 2) (di := dItems (dSl (dVar 0) (some (dC (.int 1))) none)) (body := dCall E.p_is_nested (dCons (dVar 2) (dCons (dBin pSub (dVar 1) (dC (.int 1))) dNil))) (ps := [x.pv]) ?_ (by simp [LIM]) ?_))
    · kernel_rfl
    · kernel_rfl
    · intro p hp
      simp only [List.mem_cons, List.mem_nil_iff, or_false] at hp
      subst hp
      exact ⟨_, rfl, _, Eq.trans (by kernel_rfl) (call_ok (ρ := [some (.val (Rg.not x).pv), some (.val (.int ((k : Int) + 1))), some (.val x.pv)]) h1)⟩
  | mirror x ih =>
    intro ok e k hk
    obtain ⟨k, rfl⟩ : ∃ j, k = j + 1 := ⟨k - 1, by simp only [Rg.dep] at hk; omega⟩
    simp only [Rg.dep] at hk
    have h1 := ih ok e k (by omega)
    rw [← sub1 k] at h1
    show runB 3 (d_is_nested (env (e + (x.dep) + 2))) _ = _
    unfold d_is_nested
    simp only [if_seq, nil_seq, ret_seq, seq_seq]
    revert h1
    generalize env (e + (x.dep) + 2) = E
    intro h1
    refine Eq.trans ?_ (run_ret 3 [(Rg.mirror x).pv, .int ((k : Int) + 1)] (comp_all (vs := [2]) (g := .one 2) (di := dItems (dSl (dVar 0) (some (dC (.int 1))) none)) (body := dCall E.p_is_nested (dCons (dVar 2) (dCons (dBin pSub (dVar 1) (dC (.int 1))) dNil))) (ps := [x.pv]) ?_ (by simp [LIM]) ?_))
    · kernel_rfl
    · kernel_rfl
    · intro p hp
      simp only [List.mem_cons, List.mem_nil_iff, or_false] at hp
      subst hp
      exact ⟨_, rfl, _, Eq.trans (by kernel_rfl) (call_ok (ρ := [some (.val (Rg.mirror x).pv), some (.val (.int ((k : Int) + 1))), some (.val x.pv)]) h1)⟩
  | flip x ih =>
    intro ok e k hk
    obtain ⟨k, rfl⟩ : ∃ j, k = j + 1 := ⟨k - 1, by simp only [Rg.dep] at hk; omega⟩
    simp only [Rg.dep] at hk
    have h1 := ih ok e k (by omega)
    rw [← sub1 k] at h1
    show runB 3 (d_is_nested (env (e + (x.dep) + 2))) _ = _
    unfold d_is_nested
    simp only [if_seq, nil_seq, ret_seq, seq_seq]
    revert h1
    generalize env (e + (x.dep) + 2) = E
    intro h1
    refine Eq.trans ?_ (run_ret 3 [(Rg.flip x).pv, .int ((k : Int) + 1)] (comp_all (vs := [2]) (g := .one 2) (di := dItems (dSl (dVar 0) (some (dC (.int 1))) none)) (body := dCall E.p_is_nested (dCons (dVar 2) (dCons (dBin pSub (dVar 1) (dC (.int 1))) dNil))) (ps := [x.pv]) ?_ (by simp [LIM]) ?_))
    · kernel_rfl
    · kernel_rfl
    · intro p hp
      simp only [List.mem_cons, List.mem_nil_iff, or_false] at hp
      subst hp
      exact ⟨_, rfl, _, Eq.trans (by kernel_rfl) (call_ok (ρ := [some (.val (Rg.flip x).pv), some (.val (.int ((k : Int) + 1))), some (.val x.pv)]) h1)⟩
  | turn x ih =>
    intro ok e k hk
    obtain ⟨k, rfl⟩ : ∃ j, k = j + 1 := ⟨k - 1, by simp only [Rg.dep] at hk; omega⟩
    simp only [Rg.dep] at hk
    have h1 := ih ok e k (by omega)
    rw [← sub1 k] at h1
    show runB 3 (d_is_nested (env (e + (x.dep) + 2))) _ = _
    unfold d_is_nested
    simp only [if_seq, nil_seq, ret_seq, seq_seq]
    revert h1
    generalize env (e + (x.dep) + 2) = E
    intro h1
    refine Eq.trans ?_ (run_ret 3 [(Rg.turn x).pv, .int ((k : Int) + 1)] (comp_all (vs := [2]) (g := .one 2) (di := dItems (dSl (dVar 0) (some (dC (.int 1))) none)) (body := dCall E.p_is_nested (dCons (dVar 2) (dCons (dBin pSub (dVar 1) (dC (.int 1))) dNil))) (ps := [x.pv]) ?_ (by simp [LIM]) ?_))
    · kernel_rfl
    · kernel_rfl
    · intro p hp
      simp only [List.mem_cons, List.mem_nil_iff, or_false] at hp
      subst hp
      exact ⟨_, rfl, _, Eq.trans (by kernel_rfl) (call_ok (ρ := [some (.val (Rg.turn x).pv), some (.val (.int ((k : Int) + 1))), some (.val x.pv)]) h1)⟩
  | move p q x ih =>
    intro ok e k hk
    obtain ⟨k, rfl⟩ : ∃ j, k = j + 1 := ⟨k - 1, by simp only [Rg.dep] at hk; omega⟩
    simp only [Rg.dep] at hk
    have h1 := ih ok.2.2 e k (by omega)
    rw [← sub1 k] at h1
    have w1 := is_whole_t (e + x.dep + 1) ok.1.1 ok.1.2
    have w2 := is_whole_t (e + x.dep + 1) ok.2.1.1 ok.2.1.2
    show runB 3 (d_is_nested (env (e + x.dep + 2))) _ = _
    unfold d_is_nested
    simp only [if_seq, nil_seq, ret_seq, seq_seq]
    revert h1 w1 w2
    rw [show e + x.dep + 1 + 1 = e + x.dep + 2 from rfl]
    generalize env (e + x.dep + 2) = E
    intro h1 w1 w2
    have c := comp_all (ρ := st0 3 [(Rg.move p q x).pv, .int ((k : Int) + 1)]) (vs := [2]) (g := .one 2) (di := dItems (dSl (dVar 0) (some (dC (.int 1))) (some (dC (.int 3))))) (body := dCall E.p_is_whole (dCons (dVar 2) (dCons (dUn pNeg (dC (.int 6))) (dCons (dC (.int 6)) dNil)))) (ps := [.int p, .int q]) (by kernel_rfl) (by simp [LIM]) (by
      intro z hz
      simp only [List.mem_cons, List.mem_nil_iff, or_false] at hz
      rcases hz with rfl | rfl
      · exact ⟨_, rfl, _, Eq.trans (by kernel_rfl) (call_ok (ρ := [some (.val (Rg.move p q x).pv), some (.val (.int ((k : Int) + 1))), some (.val (.int p))]) w1)⟩
      · exact ⟨_, rfl, _, Eq.trans (by kernel_rfl) (call_ok (ρ := [some (.val (Rg.move p q x).pv), some (.val (.int ((k : Int) + 1))), some (.val (.int q))]) w2)⟩)
    have c2 : dNot (dTru (dFun fAll (dCons (dComp [2] (.one 2) (dItems (dSl (dVar 0) (some (dC (.int 1))) (some (dC (.int 3))))) tyesD (dCall E.p_is_whole (dCons (dVar 2) (dCons (dUn pNeg (dC (.int 6))) (dCons (dC (.int 6)) dNil))))) dNil))) (st0 3 [(Rg.move p q x).pv, .int ((k : Int) + 1)]) = .ok false (st0 3 [(Rg.move p q x).pv, .int ((k : Int) + 1)]) := by
      unfold dNot dTru
      rw [c]
      rfl
    refine Eq.trans ?_ (Eq.trans (run_if_f (t := dNot (dTru (dFun fAll (dCons (dComp [2] (.one 2) (dItems (dSl (dVar 0) (some (dC (.int 1))) (some (dC (.int 3))))) tyesD (dCall E.p_is_whole (dCons (dVar 2) (dCons (dUn pNeg (dC (.int 6))) (dCons (dC (.int 6)) dNil))))) dNil))))
      (a := sRet (dC (.bl false))) (b := sRet (dCall E.p_is_nested (dCons (dBin pIx (dVar 0) (dC (.int 3))) (dCons (dBin pSub (dVar 1) (dC (.int 1))) dNil)))) 3 [(Rg.move p q x).pv, .int ((k : Int) + 1)] c2) (Eq.trans ?_ (run_call h1 3 [(Rg.move p q x).pv, .int ((k : Int) + 1)])))
    · kernel_rfl
    · kernel_rfl
theorem is_region (r : Rg) (ok : r.Ok) (e : Nat) (h : r.dep ≤ 8) : (env (e + r.dep + 3)).p_is_region [r.pv] = .ok (.bl true) := by
  show runB 1 (d_is_region (env (e + r.dep + 2))) _ = _
  have h1 := is_nested r ok e 8 h
  revert h1
  generalize env (e + r.dep + 2) = E
  intro h1
  exact Eq.trans (by kernel_rfl) (run_call h1 1 [r.pv])
theorem run_expr {d : DE} {t : DS} {x : PV} (k : Nat) (ps : List PV) (h : d (st0 k ps) = .ok x (st0 k ps)) : runB k (sSeq (sExpr d) t) ps = runB k t ps := by
  unfold runB
  rw [show (ps.map (fun p => some (SV.val p)) ++ List.replicate (k - ps.length) none) = st0 k ps from rfl]
  simp [sSeq, sExpr, h, Res.toOut, Out.thn]
theorem run_expr_x {d : DE} {t : DS} {c : Nat} {as : List PV} {ρ : Rho} (k : Nat) (ps : List PV) (h : d (st0 k ps) = .exc c as ρ) : runB k (sSeq (sExpr d) t) ps = .exc c as := by
  unfold runB
  rw [show (ps.map (fun p => some (SV.val p)) ++ List.replicate (k - ps.length) none) = st0 k ps from rfl]
  simp [sSeq, sExpr, h, Res.toOut, Out.thn]
theorem call_exc {f : List PV → FR} {xs as : List PV} {c : Nat} {ρ : Rho} (h : f xs = .exc c as) : dCall f (dVs xs) ρ = .exc c as ρ := by
  simp [dCall, dVs, Res.bind, h]
theorem notor_f {c1 c2 : DE} {ρ : Rho} (h1 : c1 ρ = .ok (.bl true) ρ) (h2 : c2 ρ = .ok (.bl true) ρ) : dOr (dNot (dTru c1)) (dNot (dTru c2)) ρ = .ok false ρ := by
  simp [dOr, dNot, dTru, h1, h2, Res.bind, truth, ofO]
theorem not_f {c1 : DE} {ρ : Rho} (h1 : c1 ρ = .ok (.bl true) ρ) : dNot (dTru c1) ρ = .ok false ρ := by
  simp [dNot, dTru, h1, Res.bind, truth, ofO]
theorem check_region (r : Rg) (ok : r.Ok) (e : Nat) (h : r.dep ≤ 8) : (env (e + r.dep + 4)).p_check_region [r.pv] = .ok .non := by
  show runB 1 (d_check_region (env (e + r.dep + 3))) _ = _
  have h1 := is_region r ok e h
  revert h1
  generalize env (e + r.dep + 3) = E
  intro h1
  exact Eq.trans (run_if_f 1 [r.pv] (not_f (Eq.trans (by kernel_rfl) (call_ok h1)))) (by kernel_rfl)
end Pl

set_option maxHeartbeats 4000000
/-! QS: the regions that the law draws. -/
namespace Pl
open PySem PySem.Spec PyProof.Rows L2
theorem callI_ok {f : PV → List PV → FRI} {d : DD (List PV)} {ρ : Rho} {i : Nat} {c c' r : PV} {xs : List PV} (hs : slotM ρ i = some c) (hd : d ρ = .ok xs ρ) (h : f c xs = .ok r c') : dCallI i f d ρ = .ok r (putM ρ i c') := by
  unfold dCallI
  rw [hs, hd]
  show (match slotM ρ i with | some c => (match f c xs with | .ok r c' => Res.ok r (putM ρ i c') | .stuck => .stuck) | none => .stuck) = _
  rw [hs]
  show (match f c xs with | .ok r c' => Res.ok r (putM ρ i c') | .stuck => .stuck) = _
  rw [h]
theorem ret_rt {d : DE} {ρ ρ' : Rho} {p : PV} (h : d ρ = .ok p ρ') : sRet d ρ = .rt p ρ' := by
  simp [sRet, h, Res.toOut]
theorem ix_call {dl d : DE} {ρ ρ' : Rho} {xs : List PV} {r : Int} {v : PV} (h1 : dl ρ = .ok (.lst xs) ρ) (h2 : d ρ = .ok (.int r) ρ') (h3 : pIx (.lst xs) (.int r) = some v) : dBin pIx dl d ρ = .ok v ρ' := by
  simp [dBin, h1, h2, h3, Res.bind, ofO]
theorem cons_ok {d : DE} {r : DD (List PV)} {ρ ρ1 ρ2 : Rho} {x : PV} {xs : List PV} (h1 : d ρ = .ok x ρ1) (h2 : r ρ1 = .ok xs ρ2) : dCons d r ρ = .ok (x :: xs) ρ2 := by
  simp [dCons, h1, h2, Res.bind]
theorem tup_ok {r : DD (List PV)} {ρ ρ2 : Rho} {xs : List PV} (h2 : r ρ = .ok xs ρ2) (hl : xs.length ≤ 1000) : dTup r ρ = .ok (.tup xs) ρ2 := by
  simp [dTup, h2, Res.bind, hl]
def RIs (c : PV) (x y z : Option SV) : Rho := [some (.inp c), x, y, z]
theorem plain_ok (ns : List Int) {c : PV} (hc : IsSd ns c) (e : Nat) : ∃ (r : Rg) (c' : PV), (env (e + 2)).i_l_plain c [] = .ok r.pv c' ∧ IsSd ns c' ∧ r.Ok ∧ r.dep = 1 := by
  have dr : ∀ c : PV, IsSd ns c → ∀ size : Int, 0 < size → size < 1000 → ∃ r c', (env (e + 1)).i_l_draw c [.int size] = .ok (.int r) c' ∧ IsSd ns c' ∧ 0 ≤ r ∧ r < size := fun c hc size h1 h2 => draw_ok ns hc e h1 h2
  suffices h : ∃ (r : Rg) (c' : PV) (ρ : Rho), d_l_plain (env (e + 1)) (RIs c none none none) = .rt r.pv (some (.inp c') :: ρ) ∧ IsSd ns c' ∧ r.Ok ∧ r.dep = 1 by
    obtain ⟨r, c', ρ, h1, h2⟩ := h
    refine ⟨r, c', ?_, h2⟩
    show runI 4 (d_l_plain (env (e + 1))) c [] = _
    unfold runI
    rw [show (some (SV.inp c) :: ([] : List PV).map (fun p => some (SV.val p)) ++ List.replicate (4 - (([] : List PV).length + 1)) none) = RIs c none none none from rfl, h1]
    rfl
  revert dr
  generalize env (e + 1) = E
  intro dr
  obtain ⟨r1, c1, h1, i1, l1, u1⟩ := dr c hc 10 (by omega) (by omega)
  obtain ⟨a, c2, h2, i2, l2, u2⟩ := dr c1 i1 3 (by omega) (by omega)
  obtain ⟨r2, c3, h3, i3, l3, u3⟩ := dr c2 i2 2 (by omega) (by omega)
  obtain ⟨r5, c5, h5, i5, l5, u5⟩ := dr c2 i2 5 (by omega) (by omega)
  unfold d_l_plain
  simp only [if_seq, nil_seq, ret_seq, seq_seq]
  have s1 : ∀ w : Str, pIx (.lst [.str "rows", .str "rows_up", .str "cols", .str "cols_back", .str "border", .str "high", .str "wide", .str "rows", .str "cols", .str "all"]) (.int r1) = some (.str w) → sSet 2 (dBin pIx (dVar 1) (dCallI 0 E.i_l_draw (dCons (dC (.int 10)) dNil))) (RIs c (some (.val (.lst [.str "rows", .str "rows_up", .str "cols", .str "cols_back", .str "border", .str "high", .str "wide", .str "rows", .str "cols", .str "all"]))) none none) = .nx (RIs c1 (some (.val (.lst [.str "rows", .str "rows_up", .str "cols", .str "cols_back", .str "border", .str "high", .str "wide", .str "rows", .str "cols", .str "all"]))) (some (.val (.str w))) none) := fun w hw =>
    Eq.trans (set_nx (ix_call (by kernel_rfl) (callI_ok (c := c) rfl rfl h1) hw)) rfl
  have s2 : ∀ x y, sSet 3 (dCallI 0 E.i_l_draw (dCons (dC (.int 3)) dNil)) (RIs c1 x y none) = .nx (RIs c2 x y (some (.val (.int a)))) := fun x y => Eq.trans (set_nx (callI_ok (c := c1) rfl rfl h2)) rfl
  have hr : r1 = 0 ∨ r1 = 1 ∨ r1 = 2 ∨ r1 = 3 ∨ r1 = 4 ∨ r1 = 5 ∨ r1 = 6 ∨ r1 = 7 ∨ r1 = 8 ∨ r1 = 9 := by omega
  have hk : r5 = 0 ∨ r5 = 1 ∨ r5 = 2 ∨ r5 = 3 ∨ r5 = 4 := by omega
  have h2' : r2 = 0 ∨ r2 = 1 := by omega
  have a9 : 0 ≤ a ∧ a ≤ 9 := by omega
  have t5 : ∀ (w : Str) (k : Int), pIx (.lst [.int 0, .int 1, .int 2, .int 2, .int 3]) (.int r5) = some (.int k) → sRet (dTup (dCons (dVar 2) (dCons (dVar 3) (dCons (dBin pIx (dLst (dCons (dC (.int 0)) (dCons (dC (.int 1)) (dCons (dC (.int 2)) (dCons (dC (.int 2)) (dCons (dC (.int 3)) dNil)))))) (dCallI 0 E.i_l_draw (dCons (dC (.int 5)) dNil))) dNil)))) (RIs c2 (some (.val (.lst [.str "rows", .str "rows_up", .str "cols", .str "cols_back", .str "border", .str "high", .str "wide", .str "rows", .str "cols", .str "all"]))) (some (.val (.str w))) (some (.val (.int a)))) = .rt (.tup [.str w, .int a, .int k]) (RIs c5 (some (.val (.lst [.str "rows", .str "rows_up", .str "cols", .str "cols_back", .str "border", .str "high", .str "wide", .str "rows", .str "cols", .str "all"]))) (some (.val (.str w))) (some (.val (.int a)))) := fun w k hk =>
    ret_rt (tup_ok (cons_ok (ρ1 := RIs c2 (some (.val (.lst [.str "rows", .str "rows_up", .str "cols", .str "cols_back", .str "border", .str "high", .str "wide", .str "rows", .str "cols", .str "all"]))) (some (.val (.str w))) (some (.val (.int a)))) rfl (cons_ok (ρ1 := RIs c2 (some (.val (.lst [.str "rows", .str "rows_up", .str "cols", .str "cols_back", .str "border", .str "high", .str "wide", .str "rows", .str "cols", .str "all"]))) (some (.val (.str w))) (some (.val (.int a)))) rfl (cons_ok (ix_call rfl (callI_ok (c := c2) rfl rfl h5) hk) rfl))) (by simp))
  rcases hr with rfl | rfl | rfl | rfl | rfl | rfl | rfl | rfl | rfl | rfl
  · have s1 := s1 "rows" rfl
    rcases hk with rfl | rfl | rfl | rfl | rfl
    · refine ⟨.rows a 0, c5, [some (.val (.lst [.str "rows", .str "rows_up", .str "cols", .str "cols_back", .str "border", .str "high", .str "wide", .str "rows", .str "cols", .str "all"])), some (.val (.str "rows")), some (.val (.int a))], Eq.trans (seq_nx (ρ' := RIs c (some (.val (.lst [.str "rows", .str "rows_up", .str "cols", .str "cols_back", .str "border", .str "high", .str "wide", .str "rows", .str "cols", .str "all"]))) none none) (by kernel_rfl)) (Eq.trans (seq_nx s1) (Eq.trans (seq_nx (s2 _ _)) ?_)), i5, ⟨a9, by omega, by omega⟩, rfl⟩
      exact Eq.trans (by kernel_rfl) (t5 "rows" 0 rfl)
    · refine ⟨.rows a 1, c5, [some (.val (.lst [.str "rows", .str "rows_up", .str "cols", .str "cols_back", .str "border", .str "high", .str "wide", .str "rows", .str "cols", .str "all"])), some (.val (.str "rows")), some (.val (.int a))], Eq.trans (seq_nx (ρ' := RIs c (some (.val (.lst [.str "rows", .str "rows_up", .str "cols", .str "cols_back", .str "border", .str "high", .str "wide", .str "rows", .str "cols", .str "all"]))) none none) (by kernel_rfl)) (Eq.trans (seq_nx s1) (Eq.trans (seq_nx (s2 _ _)) ?_)), i5, ⟨a9, by omega, by omega⟩, rfl⟩
      exact Eq.trans (by kernel_rfl) (t5 "rows" 1 rfl)
    · refine ⟨.rows a 2, c5, [some (.val (.lst [.str "rows", .str "rows_up", .str "cols", .str "cols_back", .str "border", .str "high", .str "wide", .str "rows", .str "cols", .str "all"])), some (.val (.str "rows")), some (.val (.int a))], Eq.trans (seq_nx (ρ' := RIs c (some (.val (.lst [.str "rows", .str "rows_up", .str "cols", .str "cols_back", .str "border", .str "high", .str "wide", .str "rows", .str "cols", .str "all"]))) none none) (by kernel_rfl)) (Eq.trans (seq_nx s1) (Eq.trans (seq_nx (s2 _ _)) ?_)), i5, ⟨a9, by omega, by omega⟩, rfl⟩
      exact Eq.trans (by kernel_rfl) (t5 "rows" 2 rfl)
    · refine ⟨.rows a 2, c5, [some (.val (.lst [.str "rows", .str "rows_up", .str "cols", .str "cols_back", .str "border", .str "high", .str "wide", .str "rows", .str "cols", .str "all"])), some (.val (.str "rows")), some (.val (.int a))], Eq.trans (seq_nx (ρ' := RIs c (some (.val (.lst [.str "rows", .str "rows_up", .str "cols", .str "cols_back", .str "border", .str "high", .str "wide", .str "rows", .str "cols", .str "all"]))) none none) (by kernel_rfl)) (Eq.trans (seq_nx s1) (Eq.trans (seq_nx (s2 _ _)) ?_)), i5, ⟨a9, by omega, by omega⟩, rfl⟩
      exact Eq.trans (by kernel_rfl) (t5 "rows" 2 rfl)
    · refine ⟨.rows a 3, c5, [some (.val (.lst [.str "rows", .str "rows_up", .str "cols", .str "cols_back", .str "border", .str "high", .str "wide", .str "rows", .str "cols", .str "all"])), some (.val (.str "rows")), some (.val (.int a))], Eq.trans (seq_nx (ρ' := RIs c (some (.val (.lst [.str "rows", .str "rows_up", .str "cols", .str "cols_back", .str "border", .str "high", .str "wide", .str "rows", .str "cols", .str "all"]))) none none) (by kernel_rfl)) (Eq.trans (seq_nx s1) (Eq.trans (seq_nx (s2 _ _)) ?_)), i5, ⟨a9, by omega, by omega⟩, rfl⟩
      exact Eq.trans (by kernel_rfl) (t5 "rows" 3 rfl)
  · have s1 := s1 "rows_up" rfl
    rcases hk with rfl | rfl | rfl | rfl | rfl
    · refine ⟨.rowsUp a 0, c5, [some (.val (.lst [.str "rows", .str "rows_up", .str "cols", .str "cols_back", .str "border", .str "high", .str "wide", .str "rows", .str "cols", .str "all"])), some (.val (.str "rows_up")), some (.val (.int a))], Eq.trans (seq_nx (ρ' := RIs c (some (.val (.lst [.str "rows", .str "rows_up", .str "cols", .str "cols_back", .str "border", .str "high", .str "wide", .str "rows", .str "cols", .str "all"]))) none none) (by kernel_rfl)) (Eq.trans (seq_nx s1) (Eq.trans (seq_nx (s2 _ _)) ?_)), i5, ⟨a9, by omega, by omega⟩, rfl⟩
      exact Eq.trans (by kernel_rfl) (t5 "rows_up" 0 rfl)
    · refine ⟨.rowsUp a 1, c5, [some (.val (.lst [.str "rows", .str "rows_up", .str "cols", .str "cols_back", .str "border", .str "high", .str "wide", .str "rows", .str "cols", .str "all"])), some (.val (.str "rows_up")), some (.val (.int a))], Eq.trans (seq_nx (ρ' := RIs c (some (.val (.lst [.str "rows", .str "rows_up", .str "cols", .str "cols_back", .str "border", .str "high", .str "wide", .str "rows", .str "cols", .str "all"]))) none none) (by kernel_rfl)) (Eq.trans (seq_nx s1) (Eq.trans (seq_nx (s2 _ _)) ?_)), i5, ⟨a9, by omega, by omega⟩, rfl⟩
      exact Eq.trans (by kernel_rfl) (t5 "rows_up" 1 rfl)
    · refine ⟨.rowsUp a 2, c5, [some (.val (.lst [.str "rows", .str "rows_up", .str "cols", .str "cols_back", .str "border", .str "high", .str "wide", .str "rows", .str "cols", .str "all"])), some (.val (.str "rows_up")), some (.val (.int a))], Eq.trans (seq_nx (ρ' := RIs c (some (.val (.lst [.str "rows", .str "rows_up", .str "cols", .str "cols_back", .str "border", .str "high", .str "wide", .str "rows", .str "cols", .str "all"]))) none none) (by kernel_rfl)) (Eq.trans (seq_nx s1) (Eq.trans (seq_nx (s2 _ _)) ?_)), i5, ⟨a9, by omega, by omega⟩, rfl⟩
      exact Eq.trans (by kernel_rfl) (t5 "rows_up" 2 rfl)
    · refine ⟨.rowsUp a 2, c5, [some (.val (.lst [.str "rows", .str "rows_up", .str "cols", .str "cols_back", .str "border", .str "high", .str "wide", .str "rows", .str "cols", .str "all"])), some (.val (.str "rows_up")), some (.val (.int a))], Eq.trans (seq_nx (ρ' := RIs c (some (.val (.lst [.str "rows", .str "rows_up", .str "cols", .str "cols_back", .str "border", .str "high", .str "wide", .str "rows", .str "cols", .str "all"]))) none none) (by kernel_rfl)) (Eq.trans (seq_nx s1) (Eq.trans (seq_nx (s2 _ _)) ?_)), i5, ⟨a9, by omega, by omega⟩, rfl⟩
      exact Eq.trans (by kernel_rfl) (t5 "rows_up" 2 rfl)
    · refine ⟨.rowsUp a 3, c5, [some (.val (.lst [.str "rows", .str "rows_up", .str "cols", .str "cols_back", .str "border", .str "high", .str "wide", .str "rows", .str "cols", .str "all"])), some (.val (.str "rows_up")), some (.val (.int a))], Eq.trans (seq_nx (ρ' := RIs c (some (.val (.lst [.str "rows", .str "rows_up", .str "cols", .str "cols_back", .str "border", .str "high", .str "wide", .str "rows", .str "cols", .str "all"]))) none none) (by kernel_rfl)) (Eq.trans (seq_nx s1) (Eq.trans (seq_nx (s2 _ _)) ?_)), i5, ⟨a9, by omega, by omega⟩, rfl⟩
      exact Eq.trans (by kernel_rfl) (t5 "rows_up" 3 rfl)
  · have s1 := s1 "cols" rfl
    rcases hk with rfl | rfl | rfl | rfl | rfl
    · refine ⟨.cols a 0, c5, [some (.val (.lst [.str "rows", .str "rows_up", .str "cols", .str "cols_back", .str "border", .str "high", .str "wide", .str "rows", .str "cols", .str "all"])), some (.val (.str "cols")), some (.val (.int a))], Eq.trans (seq_nx (ρ' := RIs c (some (.val (.lst [.str "rows", .str "rows_up", .str "cols", .str "cols_back", .str "border", .str "high", .str "wide", .str "rows", .str "cols", .str "all"]))) none none) (by kernel_rfl)) (Eq.trans (seq_nx s1) (Eq.trans (seq_nx (s2 _ _)) ?_)), i5, ⟨a9, by omega, by omega⟩, rfl⟩
      exact Eq.trans (by kernel_rfl) (t5 "cols" 0 rfl)
    · refine ⟨.cols a 1, c5, [some (.val (.lst [.str "rows", .str "rows_up", .str "cols", .str "cols_back", .str "border", .str "high", .str "wide", .str "rows", .str "cols", .str "all"])), some (.val (.str "cols")), some (.val (.int a))], Eq.trans (seq_nx (ρ' := RIs c (some (.val (.lst [.str "rows", .str "rows_up", .str "cols", .str "cols_back", .str "border", .str "high", .str "wide", .str "rows", .str "cols", .str "all"]))) none none) (by kernel_rfl)) (Eq.trans (seq_nx s1) (Eq.trans (seq_nx (s2 _ _)) ?_)), i5, ⟨a9, by omega, by omega⟩, rfl⟩
      exact Eq.trans (by kernel_rfl) (t5 "cols" 1 rfl)
    · refine ⟨.cols a 2, c5, [some (.val (.lst [.str "rows", .str "rows_up", .str "cols", .str "cols_back", .str "border", .str "high", .str "wide", .str "rows", .str "cols", .str "all"])), some (.val (.str "cols")), some (.val (.int a))], Eq.trans (seq_nx (ρ' := RIs c (some (.val (.lst [.str "rows", .str "rows_up", .str "cols", .str "cols_back", .str "border", .str "high", .str "wide", .str "rows", .str "cols", .str "all"]))) none none) (by kernel_rfl)) (Eq.trans (seq_nx s1) (Eq.trans (seq_nx (s2 _ _)) ?_)), i5, ⟨a9, by omega, by omega⟩, rfl⟩
      exact Eq.trans (by kernel_rfl) (t5 "cols" 2 rfl)
    · refine ⟨.cols a 2, c5, [some (.val (.lst [.str "rows", .str "rows_up", .str "cols", .str "cols_back", .str "border", .str "high", .str "wide", .str "rows", .str "cols", .str "all"])), some (.val (.str "cols")), some (.val (.int a))], Eq.trans (seq_nx (ρ' := RIs c (some (.val (.lst [.str "rows", .str "rows_up", .str "cols", .str "cols_back", .str "border", .str "high", .str "wide", .str "rows", .str "cols", .str "all"]))) none none) (by kernel_rfl)) (Eq.trans (seq_nx s1) (Eq.trans (seq_nx (s2 _ _)) ?_)), i5, ⟨a9, by omega, by omega⟩, rfl⟩
      exact Eq.trans (by kernel_rfl) (t5 "cols" 2 rfl)
    · refine ⟨.cols a 3, c5, [some (.val (.lst [.str "rows", .str "rows_up", .str "cols", .str "cols_back", .str "border", .str "high", .str "wide", .str "rows", .str "cols", .str "all"])), some (.val (.str "cols")), some (.val (.int a))], Eq.trans (seq_nx (ρ' := RIs c (some (.val (.lst [.str "rows", .str "rows_up", .str "cols", .str "cols_back", .str "border", .str "high", .str "wide", .str "rows", .str "cols", .str "all"]))) none none) (by kernel_rfl)) (Eq.trans (seq_nx s1) (Eq.trans (seq_nx (s2 _ _)) ?_)), i5, ⟨a9, by omega, by omega⟩, rfl⟩
      exact Eq.trans (by kernel_rfl) (t5 "cols" 3 rfl)
  · have s1 := s1 "cols_back" rfl
    rcases hk with rfl | rfl | rfl | rfl | rfl
    · refine ⟨.colsBack a 0, c5, [some (.val (.lst [.str "rows", .str "rows_up", .str "cols", .str "cols_back", .str "border", .str "high", .str "wide", .str "rows", .str "cols", .str "all"])), some (.val (.str "cols_back")), some (.val (.int a))], Eq.trans (seq_nx (ρ' := RIs c (some (.val (.lst [.str "rows", .str "rows_up", .str "cols", .str "cols_back", .str "border", .str "high", .str "wide", .str "rows", .str "cols", .str "all"]))) none none) (by kernel_rfl)) (Eq.trans (seq_nx s1) (Eq.trans (seq_nx (s2 _ _)) ?_)), i5, ⟨a9, by omega, by omega⟩, rfl⟩
      exact Eq.trans (by kernel_rfl) (t5 "cols_back" 0 rfl)
    · refine ⟨.colsBack a 1, c5, [some (.val (.lst [.str "rows", .str "rows_up", .str "cols", .str "cols_back", .str "border", .str "high", .str "wide", .str "rows", .str "cols", .str "all"])), some (.val (.str "cols_back")), some (.val (.int a))], Eq.trans (seq_nx (ρ' := RIs c (some (.val (.lst [.str "rows", .str "rows_up", .str "cols", .str "cols_back", .str "border", .str "high", .str "wide", .str "rows", .str "cols", .str "all"]))) none none) (by kernel_rfl)) (Eq.trans (seq_nx s1) (Eq.trans (seq_nx (s2 _ _)) ?_)), i5, ⟨a9, by omega, by omega⟩, rfl⟩
      exact Eq.trans (by kernel_rfl) (t5 "cols_back" 1 rfl)
    · refine ⟨.colsBack a 2, c5, [some (.val (.lst [.str "rows", .str "rows_up", .str "cols", .str "cols_back", .str "border", .str "high", .str "wide", .str "rows", .str "cols", .str "all"])), some (.val (.str "cols_back")), some (.val (.int a))], Eq.trans (seq_nx (ρ' := RIs c (some (.val (.lst [.str "rows", .str "rows_up", .str "cols", .str "cols_back", .str "border", .str "high", .str "wide", .str "rows", .str "cols", .str "all"]))) none none) (by kernel_rfl)) (Eq.trans (seq_nx s1) (Eq.trans (seq_nx (s2 _ _)) ?_)), i5, ⟨a9, by omega, by omega⟩, rfl⟩
      exact Eq.trans (by kernel_rfl) (t5 "cols_back" 2 rfl)
    · refine ⟨.colsBack a 2, c5, [some (.val (.lst [.str "rows", .str "rows_up", .str "cols", .str "cols_back", .str "border", .str "high", .str "wide", .str "rows", .str "cols", .str "all"])), some (.val (.str "cols_back")), some (.val (.int a))], Eq.trans (seq_nx (ρ' := RIs c (some (.val (.lst [.str "rows", .str "rows_up", .str "cols", .str "cols_back", .str "border", .str "high", .str "wide", .str "rows", .str "cols", .str "all"]))) none none) (by kernel_rfl)) (Eq.trans (seq_nx s1) (Eq.trans (seq_nx (s2 _ _)) ?_)), i5, ⟨a9, by omega, by omega⟩, rfl⟩
      exact Eq.trans (by kernel_rfl) (t5 "cols_back" 2 rfl)
    · refine ⟨.colsBack a 3, c5, [some (.val (.lst [.str "rows", .str "rows_up", .str "cols", .str "cols_back", .str "border", .str "high", .str "wide", .str "rows", .str "cols", .str "all"])), some (.val (.str "cols_back")), some (.val (.int a))], Eq.trans (seq_nx (ρ' := RIs c (some (.val (.lst [.str "rows", .str "rows_up", .str "cols", .str "cols_back", .str "border", .str "high", .str "wide", .str "rows", .str "cols", .str "all"]))) none none) (by kernel_rfl)) (Eq.trans (seq_nx s1) (Eq.trans (seq_nx (s2 _ _)) ?_)), i5, ⟨a9, by omega, by omega⟩, rfl⟩
      exact Eq.trans (by kernel_rfl) (t5 "cols_back" 3 rfl)
  · have s1 := s1 "border" rfl
    refine ⟨.border a, c2, [some (.val (.lst [.str "rows", .str "rows_up", .str "cols", .str "cols_back", .str "border", .str "high", .str "wide", .str "rows", .str "cols", .str "all"])), some (.val (.str "border")), some (.val (.int a))], Eq.trans (seq_nx (ρ' := RIs c (some (.val (.lst [.str "rows", .str "rows_up", .str "cols", .str "cols_back", .str "border", .str "high", .str "wide", .str "rows", .str "cols", .str "all"]))) none none) (by kernel_rfl)) (Eq.trans (seq_nx s1) (Eq.trans (seq_nx (s2 _ _)) ?_)), i2, a9, rfl⟩
    exact Eq.trans (b := Out.rt (.tup [.str "border", .int a]) (RIs c2 (some (.val (.lst [.str "rows", .str "rows_up", .str "cols", .str "cols_back", .str "border", .str "high", .str "wide", .str "rows", .str "cols", .str "all"]))) (some (.val (.str "border"))) (some (.val (.int a))))) (by kernel_rfl) rfl
  · have s1 := s1 "high" rfl
    refine ⟨.high a, c2, [some (.val (.lst [.str "rows", .str "rows_up", .str "cols", .str "cols_back", .str "border", .str "high", .str "wide", .str "rows", .str "cols", .str "all"])), some (.val (.str "high")), some (.val (.int a))], Eq.trans (seq_nx (ρ' := RIs c (some (.val (.lst [.str "rows", .str "rows_up", .str "cols", .str "cols_back", .str "border", .str "high", .str "wide", .str "rows", .str "cols", .str "all"]))) none none) (by kernel_rfl)) (Eq.trans (seq_nx s1) (Eq.trans (seq_nx (s2 _ _)) ?_)), i2, a9, rfl⟩
    exact Eq.trans (b := Out.rt (.tup [.str "high", .int a]) (RIs c2 (some (.val (.lst [.str "rows", .str "rows_up", .str "cols", .str "cols_back", .str "border", .str "high", .str "wide", .str "rows", .str "cols", .str "all"]))) (some (.val (.str "high"))) (some (.val (.int a))))) (by kernel_rfl) rfl
  · have s1 := s1 "wide" rfl
    refine ⟨.wide a, c2, [some (.val (.lst [.str "rows", .str "rows_up", .str "cols", .str "cols_back", .str "border", .str "high", .str "wide", .str "rows", .str "cols", .str "all"])), some (.val (.str "wide")), some (.val (.int a))], Eq.trans (seq_nx (ρ' := RIs c (some (.val (.lst [.str "rows", .str "rows_up", .str "cols", .str "cols_back", .str "border", .str "high", .str "wide", .str "rows", .str "cols", .str "all"]))) none none) (by kernel_rfl)) (Eq.trans (seq_nx s1) (Eq.trans (seq_nx (s2 _ _)) ?_)), i2, a9, rfl⟩
    exact Eq.trans (b := Out.rt (.tup [.str "wide", .int a]) (RIs c2 (some (.val (.lst [.str "rows", .str "rows_up", .str "cols", .str "cols_back", .str "border", .str "high", .str "wide", .str "rows", .str "cols", .str "all"]))) (some (.val (.str "wide"))) (some (.val (.int a))))) (by kernel_rfl) rfl
  · have s1 := s1 "rows" rfl
    rcases hk with rfl | rfl | rfl | rfl | rfl
    · refine ⟨.rows a 0, c5, [some (.val (.lst [.str "rows", .str "rows_up", .str "cols", .str "cols_back", .str "border", .str "high", .str "wide", .str "rows", .str "cols", .str "all"])), some (.val (.str "rows")), some (.val (.int a))], Eq.trans (seq_nx (ρ' := RIs c (some (.val (.lst [.str "rows", .str "rows_up", .str "cols", .str "cols_back", .str "border", .str "high", .str "wide", .str "rows", .str "cols", .str "all"]))) none none) (by kernel_rfl)) (Eq.trans (seq_nx s1) (Eq.trans (seq_nx (s2 _ _)) ?_)), i5, ⟨a9, by omega, by omega⟩, rfl⟩
      exact Eq.trans (by kernel_rfl) (t5 "rows" 0 rfl)
    · refine ⟨.rows a 1, c5, [some (.val (.lst [.str "rows", .str "rows_up", .str "cols", .str "cols_back", .str "border", .str "high", .str "wide", .str "rows", .str "cols", .str "all"])), some (.val (.str "rows")), some (.val (.int a))], Eq.trans (seq_nx (ρ' := RIs c (some (.val (.lst [.str "rows", .str "rows_up", .str "cols", .str "cols_back", .str "border", .str "high", .str "wide", .str "rows", .str "cols", .str "all"]))) none none) (by kernel_rfl)) (Eq.trans (seq_nx s1) (Eq.trans (seq_nx (s2 _ _)) ?_)), i5, ⟨a9, by omega, by omega⟩, rfl⟩
      exact Eq.trans (by kernel_rfl) (t5 "rows" 1 rfl)
    · refine ⟨.rows a 2, c5, [some (.val (.lst [.str "rows", .str "rows_up", .str "cols", .str "cols_back", .str "border", .str "high", .str "wide", .str "rows", .str "cols", .str "all"])), some (.val (.str "rows")), some (.val (.int a))], Eq.trans (seq_nx (ρ' := RIs c (some (.val (.lst [.str "rows", .str "rows_up", .str "cols", .str "cols_back", .str "border", .str "high", .str "wide", .str "rows", .str "cols", .str "all"]))) none none) (by kernel_rfl)) (Eq.trans (seq_nx s1) (Eq.trans (seq_nx (s2 _ _)) ?_)), i5, ⟨a9, by omega, by omega⟩, rfl⟩
      exact Eq.trans (by kernel_rfl) (t5 "rows" 2 rfl)
    · refine ⟨.rows a 2, c5, [some (.val (.lst [.str "rows", .str "rows_up", .str "cols", .str "cols_back", .str "border", .str "high", .str "wide", .str "rows", .str "cols", .str "all"])), some (.val (.str "rows")), some (.val (.int a))], Eq.trans (seq_nx (ρ' := RIs c (some (.val (.lst [.str "rows", .str "rows_up", .str "cols", .str "cols_back", .str "border", .str "high", .str "wide", .str "rows", .str "cols", .str "all"]))) none none) (by kernel_rfl)) (Eq.trans (seq_nx s1) (Eq.trans (seq_nx (s2 _ _)) ?_)), i5, ⟨a9, by omega, by omega⟩, rfl⟩
      exact Eq.trans (by kernel_rfl) (t5 "rows" 2 rfl)
    · refine ⟨.rows a 3, c5, [some (.val (.lst [.str "rows", .str "rows_up", .str "cols", .str "cols_back", .str "border", .str "high", .str "wide", .str "rows", .str "cols", .str "all"])), some (.val (.str "rows")), some (.val (.int a))], Eq.trans (seq_nx (ρ' := RIs c (some (.val (.lst [.str "rows", .str "rows_up", .str "cols", .str "cols_back", .str "border", .str "high", .str "wide", .str "rows", .str "cols", .str "all"]))) none none) (by kernel_rfl)) (Eq.trans (seq_nx s1) (Eq.trans (seq_nx (s2 _ _)) ?_)), i5, ⟨a9, by omega, by omega⟩, rfl⟩
      exact Eq.trans (by kernel_rfl) (t5 "rows" 3 rfl)
  · have s1 := s1 "cols" rfl
    rcases hk with rfl | rfl | rfl | rfl | rfl
    · refine ⟨.cols a 0, c5, [some (.val (.lst [.str "rows", .str "rows_up", .str "cols", .str "cols_back", .str "border", .str "high", .str "wide", .str "rows", .str "cols", .str "all"])), some (.val (.str "cols")), some (.val (.int a))], Eq.trans (seq_nx (ρ' := RIs c (some (.val (.lst [.str "rows", .str "rows_up", .str "cols", .str "cols_back", .str "border", .str "high", .str "wide", .str "rows", .str "cols", .str "all"]))) none none) (by kernel_rfl)) (Eq.trans (seq_nx s1) (Eq.trans (seq_nx (s2 _ _)) ?_)), i5, ⟨a9, by omega, by omega⟩, rfl⟩
      exact Eq.trans (by kernel_rfl) (t5 "cols" 0 rfl)
    · refine ⟨.cols a 1, c5, [some (.val (.lst [.str "rows", .str "rows_up", .str "cols", .str "cols_back", .str "border", .str "high", .str "wide", .str "rows", .str "cols", .str "all"])), some (.val (.str "cols")), some (.val (.int a))], Eq.trans (seq_nx (ρ' := RIs c (some (.val (.lst [.str "rows", .str "rows_up", .str "cols", .str "cols_back", .str "border", .str "high", .str "wide", .str "rows", .str "cols", .str "all"]))) none none) (by kernel_rfl)) (Eq.trans (seq_nx s1) (Eq.trans (seq_nx (s2 _ _)) ?_)), i5, ⟨a9, by omega, by omega⟩, rfl⟩
      exact Eq.trans (by kernel_rfl) (t5 "cols" 1 rfl)
    · refine ⟨.cols a 2, c5, [some (.val (.lst [.str "rows", .str "rows_up", .str "cols", .str "cols_back", .str "border", .str "high", .str "wide", .str "rows", .str "cols", .str "all"])), some (.val (.str "cols")), some (.val (.int a))], Eq.trans (seq_nx (ρ' := RIs c (some (.val (.lst [.str "rows", .str "rows_up", .str "cols", .str "cols_back", .str "border", .str "high", .str "wide", .str "rows", .str "cols", .str "all"]))) none none) (by kernel_rfl)) (Eq.trans (seq_nx s1) (Eq.trans (seq_nx (s2 _ _)) ?_)), i5, ⟨a9, by omega, by omega⟩, rfl⟩
      exact Eq.trans (by kernel_rfl) (t5 "cols" 2 rfl)
    · refine ⟨.cols a 2, c5, [some (.val (.lst [.str "rows", .str "rows_up", .str "cols", .str "cols_back", .str "border", .str "high", .str "wide", .str "rows", .str "cols", .str "all"])), some (.val (.str "cols")), some (.val (.int a))], Eq.trans (seq_nx (ρ' := RIs c (some (.val (.lst [.str "rows", .str "rows_up", .str "cols", .str "cols_back", .str "border", .str "high", .str "wide", .str "rows", .str "cols", .str "all"]))) none none) (by kernel_rfl)) (Eq.trans (seq_nx s1) (Eq.trans (seq_nx (s2 _ _)) ?_)), i5, ⟨a9, by omega, by omega⟩, rfl⟩
      exact Eq.trans (by kernel_rfl) (t5 "cols" 2 rfl)
    · refine ⟨.cols a 3, c5, [some (.val (.lst [.str "rows", .str "rows_up", .str "cols", .str "cols_back", .str "border", .str "high", .str "wide", .str "rows", .str "cols", .str "all"])), some (.val (.str "cols")), some (.val (.int a))], Eq.trans (seq_nx (ρ' := RIs c (some (.val (.lst [.str "rows", .str "rows_up", .str "cols", .str "cols_back", .str "border", .str "high", .str "wide", .str "rows", .str "cols", .str "all"]))) none none) (by kernel_rfl)) (Eq.trans (seq_nx s1) (Eq.trans (seq_nx (s2 _ _)) ?_)), i5, ⟨a9, by omega, by omega⟩, rfl⟩
      exact Eq.trans (by kernel_rfl) (t5 "cols" 3 rfl)
  · have s1 := s1 "all" rfl
    rcases h2' with rfl | rfl
    · refine ⟨.all, c3, [some (.val (.lst [.str "rows", .str "rows_up", .str "cols", .str "cols_back", .str "border", .str "high", .str "wide", .str "rows", .str "cols", .str "all"])), some (.val (.str "all")), some (.val (.int a))], Eq.trans (seq_nx (ρ' := RIs c (some (.val (.lst [.str "rows", .str "rows_up", .str "cols", .str "cols_back", .str "border", .str "high", .str "wide", .str "rows", .str "cols", .str "all"]))) none none) (by kernel_rfl)) (Eq.trans (seq_nx s1) (Eq.trans (seq_nx (s2 _ _)) ?_)), i3, trivial, rfl⟩
      refine Eq.trans (b := sRet (dTup (dCons (dBin pIx (dLst (dCons (dC (.str "all")) (dCons (dC (.str "none")) dNil))) (dCallI 0 E.i_l_draw (dCons (dC (.int 2)) dNil))) dNil)) (RIs c2 (some (.val (.lst [.str "rows", .str "rows_up", .str "cols", .str "cols_back", .str "border", .str "high", .str "wide", .str "rows", .str "cols", .str "all"]))) (some (.val (.str "all"))) (some (.val (.int a))))) (by kernel_rfl) ?_
      exact ret_rt (tup_ok (cons_ok (ix_call rfl (callI_ok (c := c2) rfl rfl h3) rfl) rfl) (by simp))
    · refine ⟨.none, c3, [some (.val (.lst [.str "rows", .str "rows_up", .str "cols", .str "cols_back", .str "border", .str "high", .str "wide", .str "rows", .str "cols", .str "all"])), some (.val (.str "all")), some (.val (.int a))], Eq.trans (seq_nx (ρ' := RIs c (some (.val (.lst [.str "rows", .str "rows_up", .str "cols", .str "cols_back", .str "border", .str "high", .str "wide", .str "rows", .str "cols", .str "all"]))) none none) (by kernel_rfl)) (Eq.trans (seq_nx s1) (Eq.trans (seq_nx (s2 _ _)) ?_)), i3, trivial, rfl⟩
      refine Eq.trans (b := sRet (dTup (dCons (dBin pIx (dLst (dCons (dC (.str "all")) (dCons (dC (.str "none")) dNil))) (dCallI 0 E.i_l_draw (dCons (dC (.int 2)) dNil))) dNil)) (RIs c2 (some (.val (.lst [.str "rows", .str "rows_up", .str "cols", .str "cols_back", .str "border", .str "high", .str "wide", .str "rows", .str "cols", .str "all"]))) (some (.val (.str "all"))) (some (.val (.int a))))) (by kernel_rfl) ?_
      exact ret_rt (tup_ok (cons_ok (ix_call rfl (callI_ok (c := c2) rfl rfl h3) rfl) rfl) (by simp))
theorem bin_ok {f : PV → PV → Option PV} {da db : DE} {ρ ρ1 ρ2 : Rho} {x y z : PV} (h1 : da ρ = .ok x ρ1) (h2 : db ρ1 = .ok y ρ2) (h3 : f x y = some z) : dBin f da db ρ = .ok z ρ2 := by
  simp [dBin, h1, h2, h3, Res.bind, ofO]
theorem or_ff {d u : DD Bool} {ρ : Rho} (h1 : d ρ = .ok false ρ) (h2 : u ρ = .ok false ρ) : dOr d u ρ = .ok false ρ := by
  simp [dOr, h1, h2, Res.bind]
theorem region_ok (ns : List Int) : ∀ (d : Nat) (e : Nat) {c : PV}, IsSd ns c → ∃ (r : Rg) (c' : PV), (env (e + d + 3)).i_l_region c [.int ((d : Int) + 1)] = .ok r.pv c' ∧ IsSd ns c' ∧ r.Ok ∧ r.dep ≤ d + 1 := by
  intro d
  induction d with
  | zero =>
    intro e c hc
    obtain ⟨r1, c1, h1, i1, l1, u1⟩ := draw_ok ns hc (e + 1) (size := 8) (by omega) (by omega)
    obtain ⟨r, c2, h2, i2, o2, d2⟩ := plain_ok ns i1 e
    refine ⟨r, c2, ?_, i2, o2, by omega⟩
    show runI 4 (d_l_region (env (e + 2))) c [.int 1] = _
    revert h1 h2
    rw [show e + 1 + 1 = e + 2 from rfl]
    generalize env (e + 2) = E
    intro h1 h2
    have hr : r1 = 0 ∨ r1 = 1 ∨ r1 = 2 ∨ r1 = 3 ∨ r1 = 4 ∨ r1 = 5 ∨ r1 = 6 ∨ r1 = 7 := by omega
    have s1 : ∀ w : Str, pIx (.lst [.str "and", .str "or", .str "not", .str "move", .str "mirror", .str "flip", .str "turn", .str "plain"]) (.int r1) = some (.str w) → sSet 2 (dBin pIx (dLst (dCons (dC (.str "and")) (dCons (dC (.str "or")) (dCons (dC (.str "not")) (dCons (dC (.str "move")) (dCons (dC (.str "mirror")) (dCons (dC (.str "flip")) (dCons (dC (.str "turn")) (dCons (dC (.str "plain")) dNil))))))))) (dCallI 0 E.i_l_draw (dCons (dC (.int 8)) dNil))) (RIs c (some (.val (.int 1))) none none) = .nx (RIs c1 (some (.val (.int 1))) (some (.val (.str w))) none) := fun w hw =>
      Eq.trans (set_nx (ix_call (by kernel_rfl) (callI_ok (c := c) rfl rfl h1) hw)) rfl
    have s2 : ∀ w : Str, sRet (dCallI 0 E.i_l_plain dNil) (RIs c1 (some (.val (.int 1))) (some (.val (.str w))) none) = .rt r.pv (RIs c2 (some (.val (.int 1))) (some (.val (.str w))) none) := fun w => ret_rt (callI_ok (c := c1) rfl rfl h2)
    have fin : ∀ w : Str, pIx (.lst [.str "and", .str "or", .str "not", .str "move", .str "mirror", .str "flip", .str "turn", .str "plain"]) (.int r1) = some (.str w) → d_l_region E (RIs c (some (.val (.int 1))) none none) = .rt r.pv (RIs c2 (some (.val (.int 1))) (some (.val (.str w))) none) := fun w hw => by
      unfold d_l_region
      simp only [if_seq, nil_seq, ret_seq, seq_seq]
      exact Eq.trans (seq_nx (s1 w hw)) (Eq.trans (b := sRet (dCallI 0 E.i_l_plain dNil) (RIs c1 (some (.val (.int 1))) (some (.val (.str w))) none)) (by kernel_rfl) (s2 w))
    have done : ∀ w : Str, pIx (.lst [.str "and", .str "or", .str "not", .str "move", .str "mirror", .str "flip", .str "turn", .str "plain"]) (.int r1) = some (.str w) → runI 4 (d_l_region E) c [.int 1] = .ok r.pv c2 := fun w hw => by
      unfold runI
      rw [show (some (SV.inp c) :: [PV.int 1].map (fun p => some (SV.val p)) ++ List.replicate (4 - ([PV.int 1].length + 1)) none) = RIs c (some (.val (.int 1))) none none from rfl, fin w hw]
      rfl
    rcases hr with rfl | rfl | rfl | rfl | rfl | rfl | rfl | rfl <;> exact done _ rfl
  | succ d ih =>
    intro e c hc
    obtain ⟨r1, c1, h1, i1, l1, u1⟩ := draw_ok ns hc (e + d + 2) (size := 8) (by omega) (by omega)
    obtain ⟨rp, cp, hp, ip, op, dp⟩ := plain_ok ns i1 (e + d + 1)
    obtain ⟨x, c2, h2, i2, o2, d2⟩ := ih e i1
    obtain ⟨y, c3, h3, i3, o3, d3⟩ := ih e i2
    obtain ⟨r4, c4, h4, i4, l4, u4⟩ := draw_ok ns i2 (e + d + 2) (size := 4) (by omega) (by omega)
    obtain ⟨r5, c5, h5, i5, l5, u5⟩ := draw_ok ns i4 (e + d + 2) (size := 4) (by omega) (by omega)
    suffices h : ∃ (r : Rg) (c' : PV) (ρ : Rho), d_l_region (env (e + d + 3)) (RIs c (some (.val (.int ((d : Int) + 1 + 1)))) none none) = .rt r.pv (some (.inp c') :: ρ) ∧ IsSd ns c' ∧ r.Ok ∧ r.dep ≤ d + 2 by
      obtain ⟨r, c', ρ, h1, h2⟩ := h
      refine ⟨r, c', ?_, h2⟩
      show runI 4 (d_l_region (env (e + d + 3))) c [.int ((d : Int) + 1 + 1)] = _
      unfold runI
      rw [show (some (SV.inp c) :: [PV.int ((d : Int) + 1 + 1)].map (fun p => some (SV.val p)) ++ List.replicate (4 - ([PV.int ((d : Int) + 1 + 1)].length + 1)) none) = RIs c (some (.val (.int ((d : Int) + 1 + 1)))) none none from rfl, h1]
      rfl
    revert h1 hp h2 h3 h4 h5
    rw [show e + d + 2 + 1 = e + d + 3 from rfl, show e + d + 1 + 2 = e + d + 3 from rfl]
    generalize env (e + d + 3) = E
    intro h1 hp h2 h3 h4 h5
    have dd : ((d : Int) + 1 + 1 - 1) = (d : Int) + 1 := by omega
    have dle : decide (((d : Int) + 1 + 1) ≤ 1) = false := decide_eq_false (by omega)
    generalize hD : ((d : Int) + 1 + 1) = D at *
    have hr : r1 = 0 ∨ r1 = 1 ∨ r1 = 2 ∨ r1 = 3 ∨ r1 = 4 ∨ r1 = 5 ∨ r1 = 6 ∨ r1 = 7 := by omega
    have s1 : ∀ w : Str, pIx (.lst [.str "and", .str "or", .str "not", .str "move", .str "mirror", .str "flip", .str "turn", .str "plain"]) (.int r1) = some (.str w) → sSet 2 (dBin pIx (dLst (dCons (dC (.str "and")) (dCons (dC (.str "or")) (dCons (dC (.str "not")) (dCons (dC (.str "move")) (dCons (dC (.str "mirror")) (dCons (dC (.str "flip")) (dCons (dC (.str "turn")) (dCons (dC (.str "plain")) dNil))))))))) (dCallI 0 E.i_l_draw (dCons (dC (.int 8)) dNil))) (RIs c (some (.val (.int D))) none none) = .nx (RIs c1 (some (.val (.int D))) (some (.val (.str w))) none) := fun w hw =>
      Eq.trans (set_nx (ix_call (by kernel_rfl) (callI_ok (c := c) rfl rfl h1) hw)) rfl
    have sd : ∀ c y z, dCons (dBin pSub (dVar 1) (dC (.int 1))) dNil (RIs c (some (.val (.int D))) y z) = .ok [.int ((d : Int) + 1)] (RIs c (some (.val (.int D))) y z) := fun c y z => by
      rw [← dd]
      rfl
    have s2 : ∀ y, sSet 3 (dCallI 0 E.i_l_region (dCons (dBin pSub (dVar 1) (dC (.int 1))) dNil)) (RIs c1 (some (.val (.int D))) y none) = .nx (RIs c2 (some (.val (.int D))) y (some (.val x.pv))) := fun y => Eq.trans (set_nx (callI_ok (c := c1) rfl (sd _ _ _) h2)) rfl
    have t1 : ∀ w : Str, (dAsB (dBin pLe (dVar 1) (dC (.int 1)))) (RIs c1 (some (.val (.int D))) (some (.val (.str w))) none) = .ok false (RIs c1 (some (.val (.int D))) (some (.val (.str w))) none) := fun w => by
      rw [← dle]
      rfl
    unfold d_l_region
    simp only [if_seq, nil_seq, ret_seq, seq_seq]
    rcases hr with rfl | rfl | rfl | rfl | rfl | rfl | rfl | rfl
    · refine ⟨.and x y, c3, [some (.val (.int D)), some (.val (.str "and")), some (.val x.pv)], Eq.trans (seq_nx (s1 "and" rfl)) (Eq.trans (if_ff (k := false) (or_ff (t1 "and") (by kernel_rfl)) rfl) (Eq.trans (seq_nx (s2 _)) ?_)), i3, ⟨o2, o3⟩, by simp only [Rg.dep]; omega⟩
      refine Eq.trans (b := sRet (dTup (dCons (dVar 2) (dCons (dVar 3) (dCons (dCallI 0 E.i_l_region (dCons (dBin pSub (dVar 1) (dC (.int 1))) dNil)) dNil)))) (RIs c2 (some (.val (.int D))) (some (.val (.str "and"))) (some (.val x.pv)))) (by kernel_rfl) ?_
      exact ret_rt (tup_ok (cons_ok (ρ1 := RIs c2 (some (.val (.int D))) (some (.val (.str "and"))) (some (.val x.pv))) rfl (cons_ok (ρ1 := RIs c2 (some (.val (.int D))) (some (.val (.str "and"))) (some (.val x.pv))) rfl (cons_ok (callI_ok (c := c2) rfl (sd _ _ _) h3) rfl))) (by simp))
    · refine ⟨.or x y, c3, [some (.val (.int D)), some (.val (.str "or")), some (.val x.pv)], Eq.trans (seq_nx (s1 "or" rfl)) (Eq.trans (if_ff (k := false) (or_ff (t1 "or") (by kernel_rfl)) rfl) (Eq.trans (seq_nx (s2 _)) ?_)), i3, ⟨o2, o3⟩, by simp only [Rg.dep]; omega⟩
      refine Eq.trans (b := sRet (dTup (dCons (dVar 2) (dCons (dVar 3) (dCons (dCallI 0 E.i_l_region (dCons (dBin pSub (dVar 1) (dC (.int 1))) dNil)) dNil)))) (RIs c2 (some (.val (.int D))) (some (.val (.str "or"))) (some (.val x.pv)))) (by kernel_rfl) ?_
      exact ret_rt (tup_ok (cons_ok (ρ1 := RIs c2 (some (.val (.int D))) (some (.val (.str "or"))) (some (.val x.pv))) rfl (cons_ok (ρ1 := RIs c2 (some (.val (.int D))) (some (.val (.str "or"))) (some (.val x.pv))) rfl (cons_ok (callI_ok (c := c2) rfl (sd _ _ _) h3) rfl))) (by simp))
    · exact ⟨.not x, c2, [some (.val (.int D)), some (.val (.str "not")), some (.val x.pv)], Eq.trans (seq_nx (s1 "not" rfl)) (Eq.trans (if_ff (k := false) (or_ff (t1 "not") (by kernel_rfl)) rfl) (Eq.trans (seq_nx (s2 _)) (by kernel_rfl))), i2, o2, by simp only [Rg.dep]; omega⟩
    · refine ⟨.move (r4 - 1) (r5 - 2) x, c5, [some (.val (.int D)), some (.val (.str "move")), some (.val x.pv)], Eq.trans (seq_nx (s1 "move" rfl)) (Eq.trans (if_ff (k := false) (or_ff (t1 "move") (by kernel_rfl)) rfl) (Eq.trans (seq_nx (s2 _)) ?_)), i5, ⟨⟨by omega, by omega⟩, ⟨by omega, by omega⟩, o2⟩, by simp only [Rg.dep]; omega⟩
      refine Eq.trans (b := sRet (dTup (dCons (dVar 2) (dCons (dBin pSub (dCallI 0 E.i_l_draw (dCons (dC (.int 4)) dNil)) (dC (.int 1))) (dCons (dBin pSub (dCallI 0 E.i_l_draw (dCons (dC (.int 4)) dNil)) (dC (.int 2))) (dCons (dVar 3) dNil))))) (RIs c2 (some (.val (.int D))) (some (.val (.str "move"))) (some (.val x.pv)))) (by kernel_rfl) ?_
      exact ret_rt (tup_ok (cons_ok (ρ1 := RIs c2 (some (.val (.int D))) (some (.val (.str "move"))) (some (.val x.pv))) rfl (cons_ok (ρ1 := RIs c4 (some (.val (.int D))) (some (.val (.str "move"))) (some (.val x.pv))) (bin_ok (callI_ok (c := c2) rfl rfl h4) rfl rfl) (cons_ok (ρ1 := RIs c5 (some (.val (.int D))) (some (.val (.str "move"))) (some (.val x.pv))) (bin_ok (callI_ok (c := c4) rfl rfl h5) rfl rfl) (cons_ok rfl rfl)))) (by simp))
    · exact ⟨.mirror x, c2, [some (.val (.int D)), some (.val (.str "mirror")), some (.val x.pv)], Eq.trans (seq_nx (s1 "mirror" rfl)) (Eq.trans (if_ff (k := false) (or_ff (t1 "mirror") (by kernel_rfl)) rfl) (Eq.trans (seq_nx (s2 _)) (by kernel_rfl))), i2, o2, by simp only [Rg.dep]; omega⟩
    · exact ⟨.flip x, c2, [some (.val (.int D)), some (.val (.str "flip")), some (.val x.pv)], Eq.trans (seq_nx (s1 "flip" rfl)) (Eq.trans (if_ff (k := false) (or_ff (t1 "flip") (by kernel_rfl)) rfl) (Eq.trans (seq_nx (s2 _)) (by kernel_rfl))), i2, o2, by simp only [Rg.dep]; omega⟩
    · exact ⟨.turn x, c2, [some (.val (.int D)), some (.val (.str "turn")), some (.val x.pv)], Eq.trans (seq_nx (s1 "turn" rfl)) (Eq.trans (if_ff (k := false) (or_ff (t1 "turn") (by kernel_rfl)) rfl) (Eq.trans (seq_nx (s2 _)) (by kernel_rfl))), i2, o2, by simp only [Rg.dep]; omega⟩
    · refine ⟨rp, cp, [some (.val (.int D)), some (.val (.str "plain")), none], Eq.trans (seq_nx (s1 "plain" rfl)) (Eq.trans (b := sRet (dCallI 0 E.i_l_plain dNil) (RIs c1 (some (.val (.int D))) (some (.val (.str "plain"))) none)) ?_ (ret_rt (callI_ok (c := c1) rfl rfl hp))), ip, op, by omega⟩
      refine Eq.trans (if_tt (k := true) ?_ rfl) rfl
      have q := t1 "plain"
      unfold dOr
      rw [q]
      kernel_rfl
end Pl

set_option maxHeartbeats 4000000
/-! QX: texts as lists of signs: split at one sign, slices, where a word stands. -/
namespace Pl
open PySem PySem.Spec PyProof.Rows L2
open PySem.StrLaws PySem.Builtin.Str
def sl (l : List Nat) : Str := ⟨l.toArray⟩
def lt (s : Str) : List Nat := s.cps.toList
@[simp] theorem sl_lt (s : Str) : sl (lt s) = s := by cases s; rfl
@[simp] theorem lt_sl (l : List Nat) : lt (sl l) = l := by simp [sl, lt]
theorem lt_len (s : Str) : s.length = (lt s).length := by cases s; simp [Str.length, lt]
theorem sl_app (a b : List Nat) : sl a ++ sl b = sl (a ++ b) := by
  show Str.append _ _ = _
  simp [Str.append, sl]
theorem lt_app (a b : Str) : lt (a ++ b) = lt a ++ lt b := by
  show lt (Str.append a b) = _
  simp [Str.append, lt]
@[simp] theorem sl_len (l : List Nat) : (sl l).length = l.length := by simp [Str.length, sl]
@[simp] theorem sl_cps (l : List Nat) : (sl l).cps.toList = l := by simp [sl]
theorem sl_inj {a b : List Nat} (h : sl a = sl b) : a = b := by
  have := congrArg lt h
  simpa using this
/-- where a sign stands -/
def posC (c : Nat) : Nat → List Nat → List Nat
  | _, [] => []
  | k, a :: l => if a = c then k :: posC c (k + 1) l else posC c (k + 1) l
theorem occ_loop (c : Nat) (s : List Nat) : ∀ (l : List Nat) (k : Nat) (arr : Array Nat) (free : Nat), s.drop k = l → k + l.length = s.length → free ≤ k → arr.size ≤ k →
    (forIn (List.range' k (l.length + 1)) (arr, free) (occBody (sl s) (sl [c]) s.length (s.length + 1))).run.fst.toList = arr.toList ++ posC c k l
  | [], k, arr, free, hd, hk, hf, hs => by
    have hk : k = s.length := by simpa using hk
    have hno : ¬ (((arr.size < s.length + 1 ∧ free ≤ k) ∧ k + (sl [c]).length ≤ s.length) ∧ subAt (sl s) (sl [c]) k = true) := fun h => by
      have := h.1.2
      rw [sl_len] at this
      simp at this
      omega
    show (forIn (List.range' k 1) (arr, free) (occBody (sl s) (sl [c]) s.length (s.length + 1))).run.fst.toList = _
    rw [List.range'_one, List.forIn_cons]
    unfold occBody
    rw [if_neg hno]
    simp [posC]
  | a :: l, k, arr, free, hd, hk, hf, hs => by
    have hk : k + (l.length + 1) = s.length := by simpa using hk
    have hget : s[k]? = some a := by
      have : (s.drop k)[0]? = some a := by rw [hd]; rfl
      rw [List.getElem?_drop] at this
      simpa using this
    have hd2 : s.drop (k + 1) = l := by
      rw [← List.drop_drop, hd]
      rfl
    have key := subAt_one (sl s) c k
    rw [sl_cps, hget] at key
    show (forIn (List.range' k ((l.length + 1) + 1)) (arr, free) (occBody (sl s) (sl [c]) s.length (s.length + 1))).run.fst.toList = _
    rw [List.range'_succ, List.forIn_cons]
    unfold occBody
    by_cases hc : a = c
    · subst hc
      have h2 := key.mpr rfl
      have h3 : ((arr.size < s.length + 1 ∧ free ≤ k) ∧ k + (sl [a]).length ≤ s.length) ∧ subAt (sl s) (sl [a]) k = true := by
        refine ⟨⟨⟨by omega, hf⟩, ?_⟩, h2.2⟩
        rw [sl_len]
        simp
        omega
      rw [if_pos h3]
      have ih := occ_loop a s l (k + 1) (arr.push k) (k + (sl [a]).length) hd2 (by omega) (by rw [sl_len]; simp) (by simp; omega)
      refine Eq.trans ih ?_
      simp [posC]
    · have h3 : ¬ (((arr.size < s.length + 1 ∧ free ≤ k) ∧ k + (sl [c]).length ≤ s.length) ∧ subAt (sl s) (sl [c]) k = true) := fun h => by
        have h1 : k + (⟨#[c]⟩ : Str).length ≤ (sl s).length := by rw [sl_len]; exact h.1.2
        have := key.mp ⟨h1, h.2⟩
        cases this
        exact hc rfl
      rw [if_neg h3]
      have ih := occ_loop c s l (k + 1) arr free hd2 (by omega) (by omega) (by omega)
      refine Eq.trans ih ?_
      simp [posC, hc]
theorem occ_c (c : Nat) (s : List Nat) : occurrences (sl s) (sl [c]) 0 (sl s).length ((sl s).length + 1) = posC c 0 s := by
  rw [occ_eq, sl_len]
  have := occ_loop c s s 0 #[] 0 rfl (by simp) (Nat.le_refl _) (Nat.le_refl _)
  simpa using this
/-- the parts that a sign parts -/
def spl (c : Nat) : List Nat → List (List Nat)
  | [] => [[]]
  | a :: l => if a = c then [] :: spl c l else match spl c l with
    | p :: ps => (a :: p) :: ps
    | [] => [[a]]
theorem spl_ne (c : Nat) : ∀ l, spl c l ≠ []
  | [] => by simp [spl]
  | a :: l => by
    unfold spl
    split
    · simp
    · split <;> simp
theorem zip_spl (c : Nat) (s : List Nat) : ∀ (l : List Nat) (b k : Nat), s.drop k = l → k + l.length = s.length → b ≤ k → 
    (((b :: (posC c k l).map (· + 1)).zip (posC c k l ++ [s.length])).map fun (p : Nat × Nat) => (s.drop p.1).take (p.2 - p.1)) = (match spl c l with
      | p :: ps => ((s.drop b).take (k - b) ++ p) :: ps
      | [] => [])
  | [], b, k, hd, hk, hb => by
    have hk : k = s.length := by simpa using hk
    simp [posC, spl, hk]
  | a :: l, b, k, hd, hk, hb => by
    have hk : k + (l.length + 1) = s.length := by simpa using hk
    have hd2 : s.drop (k + 1) = l := by
      rw [← List.drop_drop, hd]
      rfl
    have hget : s[k]? = some a := by
      have : (s.drop k)[0]? = some a := by rw [hd]; rfl
      rw [List.getElem?_drop] at this
      simpa using this
    by_cases hc : a = c
    · subst hc
      have ih := zip_spl a s l (k + 1) (k + 1) hd2 (by omega) (Nat.le_refl _)
      simp only [posC, if_true, List.map_cons, List.cons_append, List.zip_cons_cons, spl]
      rw [ih]
      cases e : spl a l with
      | nil => exact absurd e (spl_ne _ _)
      | cons p ps => simp
    · have ih := zip_spl c s l b (k + 1) hd2 (by omega) (by omega)
      simp only [posC, if_neg hc, spl]
      rw [ih]
      cases e : spl c l with
      | nil => exact absurd e (spl_ne _ _)
      | cons p ps =>
        simp only [List.cons.injEq, and_true]
        have : (s.drop b).take (k + 1 - b) = (s.drop b).take (k - b) ++ [a] := by
          rw [show k + 1 - b = (k - b) + 1 by omega, List.take_add_one, List.getElem?_drop, show b + (k - b) = k by omega, hget]
          rfl
        rw [this]
        simp
theorem between_spl (c : Nat) (s : List Nat) : partsBetween (sl s) (posC c 0 s) (sl [c]).length = (spl c s).map sl := by
  have h := zip_spl c s s 0 0 rfl (by simp) (Nat.le_refl _)
  unfold partsBetween
  have h2 : ∀ (l : List (Nat × Nat)), (l.map fun p => strSub (sl s) p.1 p.2) = (l.map fun (p : Nat × Nat) => (s.drop p.1).take (p.2 - p.1)).map sl := fun l => by
    rw [List.map_map]
    refine List.map_congr_left fun p _ => ?_
    unfold strSub sl
    simp
  rw [sl_len, sl_len]
  refine Eq.trans (h2 _) ?_
  rw [show ([c] : List Nat).length = 1 from rfl, h]
  cases e : spl c s with
  | nil => exact absurd e (spl_ne _ _)
  | cons p ps => simp
theorem spl_no (c : Nat) : ∀ l : List Nat, c ∉ l → spl c l = [l]
  | [], _ => rfl
  | a :: l, h => by
    have h1 : a ≠ c := fun e => h (e ▸ List.mem_cons_self)
    have h2 := spl_no c l fun m => h (List.mem_cons_of_mem _ m)
    simp [spl, h1, h2]
theorem spl_app (c : Nat) : ∀ (l r : List Nat), c ∉ l → spl c (l ++ c :: r) = l :: spl c r
  | [], r, _ => by simp [spl]
  | a :: l, r, h => by
    have h1 : a ≠ c := fun e => h (e ▸ List.mem_cons_self)
    have h2 := spl_app c l r fun m => h (List.mem_cons_of_mem _ m)
    simp [spl, h1, h2]
theorem pos_nil (c : Nat) : ∀ (l : List Nat) (k : Nat), posC c k l = [] → c ∉ l
  | [], _, _ => by simp
  | a :: l, k, h => by
    by_cases hc : a = c
    · simp [posC, hc] at h
    · simp [posC, hc] at h
      have := pos_nil c l (k + 1) h
      intro m
      rcases List.mem_cons.mp m with e | m
      · exact hc e.symm
      · exact this m
theorem split_c (c : Nat) (s : List Nat) : Txt.split (sl s) (sl [c]) = (spl c s).map sl := by
  unfold Txt.split
  rw [occ_c]
  by_cases h1 : (decide ((sl s).length < (sl [c]).length) || decide (PySem.Builtin.Str.strKind (sl s) < PySem.Builtin.Str.strKind (sl [c]))) = true
  · rw [if_pos h1]
    have : c ∉ s := fun m => by
      rcases Bool.or_eq_true_iff.mp h1 with h | h
      · have h := of_decide_eq_true h
        rw [sl_len, sl_len] at h
        have := List.length_pos_of_mem m
        simp at h
        subst h
        cases m
      · have h := of_decide_eq_true h
        have k1 : ∀ (n : Nat), (sl s).cps.all (· < n) = true → (sl [c]).cps.all (· < n) = true := fun n hn => by
          rw [Array.all_eq_true_iff_forall_mem] at hn ⊢
          intro x hx
          have : x = c := by simpa [sl] using hx
          subst this
          exact hn x (by simpa [sl] using m)
        unfold PySem.Builtin.Str.strKind at h
        by_cases a1 : (sl s).cps.all (· < 256) = true
        · rw [if_pos a1, if_pos (k1 256 a1)] at h
          omega
        · rw [if_neg a1] at h
          by_cases a2 : (sl s).cps.all (· < 65536) = true
          · rw [if_pos a2] at h
            split at h
            · omega
            · rw [if_pos (k1 65536 a2)] at h
              omega
          · rw [if_neg a2] at h
            split at h
            · omega
            · split at h <;> omega
    rw [spl_no c s this]
    rfl
  · rw [if_neg h1]
    by_cases h2 : (posC c 0 s).isEmpty = true
    · rw [if_pos h2, spl_no c s (pos_nil c s 0 (List.isEmpty_iff.mp h2))]
      rfl
    · rw [if_neg h2, between_spl]
theorem pSplit_c (c : Nat) (s : List Nat) (h : s.length + 2 ≤ LIM) : pSplit (.str (sl s)) (.str (sl [c])) = some (.lst ((spl c s).map fun p => .str (sl p))) := by
  unfold pSplit
  dsimp only
  rw [if_pos ⟨by simp, by rw [sl_len]; exact h⟩, split_c, List.map_map]
  rfl
theorem in_c (c : Nat) (s : List Nat) : inStr (sl [c]) (sl s) = decide (c ∈ s) := by
  have := found_one (sl s) c
  unfold inStr
  rw [sl_cps] at this
  exact this
theorem cutS_sl (s : List Nat) (lo hi : Option Int) : cutS (sl s) lo hi = sl (cutL s lo hi) := by
  unfold cutS cutL
  rw [sl_cps, sl_len]
  rfl
theorem pSl_sl (s : List Nat) (lo hi : Option Int) (h : s.length ≤ LIM) : pSl (.str (sl s)) lo hi = some (.str (sl (cutL s lo hi))) := by
  unfold pSl
  dsimp only
  rw [if_pos (by rw [sl_len]; exact h), cutS_sl]
theorem cut_from {α : Type} (a b : List α) : cutL (a ++ b) (some (a.length : Int)) none = b := by
  unfold cutL
  rw [HT.sIx_nat, HT.sIx_none]
  simp
theorem cut_mid {α : Type} (a b : List α) (x : α) : cutL (a ++ (b ++ [x])) (some (a.length : Int)) (some (-1)) = b := by
  unfold cutL
  have : HT.sIx (a ++ (b ++ [x])).length (a ++ (b ++ [x])).length (some (-1)) = a.length + b.length := by
    show (if (-1 : Int) < 0 then ((-1 : Int) + ((a ++ (b ++ [x])).length : Int)).toNat else min (-1 : Int).toNat (a ++ (b ++ [x])).length) = _
    rw [if_pos (by omega)]
    simp
    omega
  rw [this, HT.sIx_nat]
  simp
theorem pIx_last (a : List Nat) (x : Nat) (h : a.length + 1 ≤ LIM) : pIx (.str (sl (a ++ [x]))) (.int (-1)) = some (.str (sl [x])) := by
  unfold pIx
  dsimp only
  rw [if_pos (by rw [sl_len]; simpa using h), sl_cps]
  have : atI (a ++ [x]) (-1) = some x := by
    unfold atI ixN
    rw [if_neg (by omega), if_pos (by simp; omega)]
    simp only [List.length_append, List.length_cons, List.length_nil, Option.bind_some]
    rw [show (-1 + ((a.length + (0 + 1) : Nat) : Int)).toNat = a.length by omega]
    simp
  rw [this]
  rfl
theorem pIx_nat (s : List Nat) (k x : Nat) (hk : s[k]? = some x) (h : s.length ≤ LIM) : pIx (.str (sl s)) (.int (k : Int)) = some (.str (sl [x])) := by
  unfold pIx
  dsimp only
  rw [if_pos (by rw [sl_len]; exact h), sl_cps, at_nat, hk]
  rfl
theorem join2 (y a b : List Nat) : Txt.join (sl y) [sl a, sl b] = sl (a ++ y ++ b) := by
  unfold Txt.join
  rw [glued_eq_join]
  show (sl a ++ sl y) ++ sl b = _
  rw [sl_app, sl_app]
theorem join1 (y : Str) (a : List Nat) : Txt.join y [sl a] = sl a := by
  unfold Txt.join
  rw [glued_eq_join]
  rfl
/-- plain signs -/
def Asc (l : List Nat) : Prop := ∀ x ∈ l, x < 128
instance (l : List Nat) : Decidable (Asc l) := by unfold Asc; infer_instance
theorem Asc.app {a b : List Nat} (ha : Asc a) (hb : Asc b) : Asc (a ++ b) := fun x h => (List.mem_append.mp h).elim (ha x) (hb x)
theorem Asc.cons {a : Nat} {b : List Nat} (ha : a < 128) (hb : Asc b) : Asc (a :: b) := fun x h => (List.mem_cons.mp h).elim (fun e => e ▸ ha) (hb x)
theorem Asc.sub {a b : List Nat} (hb : Asc b) (h : ∀ x ∈ a, x ∈ b) : Asc a := fun x m => hb x (h x m)
theorem asc_ok {l : List Nat} (h : Asc l) : PyData.strOk (sl l) = true := by
  unfold PyData.strOk
  rw [Array.all_eq_true_iff_forall_mem]
  intro x hx
  have := h x (by simpa [sl] using hx)
  exact decide_eq_true (by omega)
theorem str_shaped {x : Str} (h : PyData.strOk x = true) : SeqAt.shaped (pdt (.str x)) = true := by
  show (PyData.strOk x && decide (0 ≤ 64)) = true
  rw [h]
  rfl
theorem pEq_str {x y : Str} (hx : PyData.strOk x = true) (hy : PyData.strOk y = true) : pEq (.str x) (.str y) = some (.bl (decide (x = y))) := by
  unfold pEq
  rw [if_pos ⟨str_shaped hx, str_shaped hy⟩]
  show some (PV.bl (x == y)) = _
  rw [Bool.beq_eq_decide_eq]
theorem pNe_str {x y : Str} (hx : PyData.strOk x = true) (hy : PyData.strOk y = true) : pNe (.str x) (.str y) = some (.bl (!decide (x = y))) := by
  unfold pNe
  rw [if_pos ⟨str_shaped hx, str_shaped hy⟩]
  show some (PV.bl (!(x == y))) = _
  rw [Bool.beq_eq_decide_eq]
theorem while_nx {t : DD Bool} {d : DS} {n : Nat} {ρ ρ' : Rho} (ht : t ρ = .ok true ρ) (hd : d ρ = .nx ρ') : whileL t d (n + 1) ρ = whileL t d n ρ' := by
  unfold whileL
  rw [ht]
  show (d ρ).thn (whileL t d n) = _
  rw [hd]
  cases n <;> rfl
theorem while_end {t : DD Bool} {d : DS} {n : Nat} {ρ : Rho} (ht : t ρ = .ok false ρ) : whileL t d (n + 1) ρ = .nx ρ := by
  unfold whileL
  rw [ht]
  rfl
theorem at_last {α : Type} (a : List α) (x : α) : atI (a ++ [x]) (-1) = some x := by
  unfold atI ixN
  rw [if_neg (by omega), if_pos (by simp; omega)]
  simp only [List.length_append, List.length_cons, List.length_nil, Option.bind_some]
  rw [show (-1 + ((a.length + (0 + 1) : Nat) : Int)).toNat = a.length by omega]
  simp
theorem ixN_last {α : Type} (a : List α) (x : α) : ixN (a ++ [x]).length (-1) = some a.length := by
  unfold ixN
  rw [if_neg (by omega), if_pos (by simp; omega)]
  simp only [List.length_append, List.length_cons, List.length_nil]
  rw [show (-1 + ((a.length + (0 + 1) : Nat) : Int)).toNat = a.length by omega]
theorem ixN_m1 (n : Nat) : ixN (n + 1) (-1) = some n := by
  unfold ixN
  rw [if_neg (by omega), if_pos (by omega)]
  congr 1
  omega
/-- what a bracket counts -/
def valC (a : Nat) : Int := if a = 40 then 1 else if a = 41 then -1 else 0
theorem pickC (a : Nat) {i : Nat} {ρ : Rho} (h : ρ[i]? = some (some (.val (.str (sl [a]))))) : dPickG [("(", (dC (.int 1))), (")", (dC (.int (-1))))] (dVar i) (dC (.int 0)) ρ = .ok (.int (valC a)) ρ := by
  have e : dVar i ρ = .ok (.str (sl [a])) ρ := by
    unfold dVar
    rw [h]
  have l1 : ("(" : Str) = sl [40] := by kernel_rfl
  have l2 : (")" : Str) = sl [41] := by kernel_rfl
  unfold dPickG
  show ((dVar i ρ).bind fun k ρ => ((dC (.int 0)) ρ).bind fun x ρ => _) = _
  rw [e]
  show Res.ok ((List.lookup (sl [a]) [(("(" : Str), PV.int 1), ((")" : Str), PV.int (-1))]).getD (.int 0)) ρ = _
  rw [l1, l2]
  unfold valC
  have nn : ∀ b : Nat, a ≠ b → (sl [a] == sl [b]) = false := fun b n => by
    rw [beq_eq_false_iff_ne]
    intro e
    have := sl_inj e
    simp at this
    exact n this
  by_cases h1 : a = 40
  · subst h1
    rfl
  · rw [if_neg h1]
    by_cases h2 : a = 41
    · subst h2
      rfl
    · rw [if_neg h2]
      simp [List.lookup, nn 40 h1, nn 41 h2]
theorem compL_map {α : Type} {g : Tg} {body : DE} {ρ : Rho} {f y : α → PV} : ∀ (xs : List α), (∀ x ∈ xs, ∃ ρ1, g.set (f x) ρ = some ρ1 ∧ ∃ ρ2, body ρ1 = .ok (y x) ρ2) → compL g tyesD body ρ (xs.map f) = some (xs.map y)
  | [], _ => rfl
  | x :: xs, h => by
    obtain ⟨ρ1, h1, ρ2, h2⟩ := h x List.mem_cons_self
    have ih := compL_map xs fun q hq => h q (List.mem_cons_of_mem _ hq)
    rw [List.map_cons]
    unfold compL
    rw [h1]
    simp only [tyesD, h2, ih, Option.map_some, List.map_cons]
/-- a value may be compared -/
def Lay (p : PV) (n : Nat) : Prop := PyData.canLay0 (pdt p) = true ∧ PyData.depth (pdt p) ≤ n
theorem Lay.int (i : Int) (n : Nat) : Lay (.int i) n := ⟨rfl, Nat.zero_le _⟩
theorem Lay.bl (i : Bool) (n : Nat) : Lay (.bl i) n := ⟨rfl, Nat.zero_le _⟩
theorem Lay.non (n : Nat) : Lay .non n := ⟨rfl, Nat.zero_le _⟩
theorem Lay.str {x : Str} (h : PyData.strOk x = true) (n : Nat) : Lay (.str x) n := ⟨h, Nat.zero_le _⟩
theorem Lay.mono {p : PV} {n m : Nat} (h : Lay p n) (hm : n ≤ m) : Lay p m := ⟨h.1, Nat.le_trans h.2 hm⟩
theorem lay_all : ∀ {xs : List PV} {n : Nat}, (∀ p ∈ xs, Lay p n) → PyData.canLayAll0 (pdts xs) = true ∧ PyData.depthAll (pdts xs) ≤ n
  | [], _, _ => ⟨rfl, Nat.zero_le _⟩
  | x :: xs, n, h => by
    obtain ⟨h1, h2⟩ := lay_all fun p m => h p (List.mem_cons_of_mem x m)
    obtain ⟨g1, g2⟩ := h x List.mem_cons_self
    refine ⟨?_, ?_⟩
    · show (PyData.canLay0 (pdt x) && PyData.canLayAll0 (pdts xs)) = true
      rw [g1, h1]
      rfl
    · show max (PyData.depth (pdt x)) (PyData.depthAll (pdts xs)) ≤ n
      exact Nat.max_le.mpr ⟨g2, h2⟩
theorem Lay.tup {xs : List PV} {n : Nat} (h : ∀ p ∈ xs, Lay p n) : Lay (.tup xs) (n + 1) := by
  obtain ⟨h1, h2⟩ := lay_all h
  exact ⟨h1, Nat.succ_le_succ h2⟩
theorem Lay.lst {xs : List PV} {n : Nat} (h : ∀ p ∈ xs, Lay p n) : Lay (.lst xs) (n + 1) := by
  obtain ⟨h1, h2⟩ := lay_all h
  exact ⟨h1, Nat.succ_le_succ h2⟩
theorem Lay.shaped {p : PV} {n : Nat} (h : Lay p n) (hn : n ≤ 64) : SeqAt.shaped (pdt p) = true := by
  show (PyData.canLay0 (pdt p) && decide (PyData.depth (pdt p) ≤ 64)) = true
  rw [h.1, decide_eq_true (Nat.le_trans h.2 hn)]
  rfl
theorem eqv_non : ∀ p : PV, isN p = false → PyData.eqv (pdt p) .none = false
  | .non, h => by cases h
  | .bl b, _ => by cases b <;> rfl
  | .int _, _ => rfl
  | .str _, _ => rfl
  | .tup _, _ => rfl
  | .lst _, _ => rfl
  | .dct _ _, _ => rfl
  | .dks _ _, _ => rfl
  | .ins _ _, _ => rfl
  | .scr _, _ => rfl
theorem no_none {ps : List PV} (h : ∀ p ∈ ps, Lay p 60) (hn : ∀ p ∈ ps, isN p = false) : pIn .non (.lst ps) = some (.bl false) := by
  have h2 : ∀ ps : List PV, (∀ p ∈ ps, isN p = false) → ((pdts ps).any fun z => PyData.eqv z (pdt .non)) = false := by
    intro ps
    induction ps with
    | nil => intro _; rfl
    | cons a ps ih =>
      intro hn
      show (PyData.eqv (pdt a) .none || (pdts ps).any fun z => PyData.eqv z (pdt .non)) = false
      rw [ih fun p m => hn p (List.mem_cons_of_mem _ m), eqv_non a (hn a List.mem_cons_self)]
      rfl
  show Option.map PV.bl (if SeqAt.shaped (pdt .non) = true ∧ SeqAt.shaped (pdt (.lst ps)) = true then some ((pdts ps).any fun z => PyData.eqv z (pdt .non)) else none) = _
  rw [if_pos ⟨rfl, (Lay.lst h).shaped (by omega)⟩, h2 ps hn]
  rfl
theorem str_ext {a b : Str} (h : lt a = lt b) : a = b := by rw [← sl_lt a, ← sl_lt b, h]
theorem str_len_app (a b : Str) : (a ++ b).length = a.length + b.length := by rw [lt_len, lt_app, List.length_append, ← lt_len, ← lt_len]
theorem allStr_map : ∀ l : List Str, allStr (l.map .str) = some l
  | [] => rfl
  | x :: l => by
    show (allStr (l.map .str)).map (x :: ·) = _
    rw [allStr_map l]
    rfl
theorem pJoin_l (y : Str) (l : List Str) (h : (l.map (·.length)).sum + l.length * y.length ≤ LIM) : pJoin (.str y) (.lst (l.map .str)) = some (.str (Txt.join y l)) := by
  unfold pJoin
  simp only [allStr_map]
  rw [if_pos h]
theorem lt_join (y : Str) : ∀ l : List Str, lt (Txt.join y l) = List.intercalate (lt y) (l.map lt) := by
  intro l
  unfold Txt.join
  rw [StrLaws.glued_eq_join]
  induction l with
  | nil => rfl
  | cons x l ih =>
    cases l with
    | nil => simp [Str.join]
    | cons z r =>
      show lt ((x ++ y) ++ Str.join y (z :: r)) = _
      rw [lt_app, lt_app, ih]
      simp [List.intercalate]
theorem compL_none {α : Type} {g : Tg} {t : DD Bool} {body : DE} {ρ : Rho} {f : α → PV} : ∀ (xs : List α), (∀ x ∈ xs, ∃ ρ1, g.set (f x) ρ = some ρ1 ∧ ∃ ρ2, t ρ1 = .ok false ρ2) → compL g t body ρ (xs.map f) = some []
  | [], _ => rfl
  | x :: xs, h => by
    obtain ⟨ρ1, h1, ρ2, h2⟩ := h x List.mem_cons_self
    have ih := compL_none (body := body) xs fun q hq => h q (List.mem_cons_of_mem _ hq)
    rw [List.map_cons]
    unfold compL
    rw [h1]
    simp only [h2, ih]
theorem compL_mapT {α : Type} {g : Tg} {t : DD Bool} {body : DE} {ρ : Rho} {f y : α → PV} : ∀ (xs : List α), (∀ x ∈ xs, ∃ ρ1, g.set (f x) ρ = some ρ1 ∧ ∃ ρ2, t ρ1 = .ok true ρ2 ∧ ∃ ρ3, body ρ2 = .ok (y x) ρ3) → compL g t body ρ (xs.map f) = some (xs.map y)
  | [], _ => rfl
  | x :: xs, h => by
    obtain ⟨ρ1, h1, ρ2, h2, ρ3, h3⟩ := h x List.mem_cons_self
    have ih := compL_mapT xs fun q hq => h q (List.mem_cons_of_mem _ hq)
    rw [List.map_cons]
    unfold compL
    rw [h1]
    simp only [h2, h3, ih, Option.map_some, List.map_cons]
@[simp] theorem fList_t {xs : List PV} : fList [.tup xs] = some (.lst xs) := rfl
theorem addS {a b : List Nat} (h : a.length + b.length ≤ 16000000) : pAdd (.str (sl a)) (.str (sl b)) = some (.str (sl (a ++ b))) := by
  rw [← sl_app]
  exact if_pos (by rw [sl_len, sl_len]; exact h)
theorem js3S {dsl : List DE} {a b : List Nat} {ρ : Rho} (h : a.length + b.length ≤ 16000000) : js3 dsl (sl a) (.ok (.str (sl b)) ρ) = dJ dsl (sl (a ++ b)) ρ := by
  rw [js3_ok, if_pos (by rw [sl_app, sl_len, List.length_append]; exact h), sl_app]
theorem starts_sl (l p : List Nat) : Txt.startswith (sl l) (sl p) = (decide (p.length ≤ l.length) && (l.take p.length == p)) := by
  show (decide (0 + (sl p).length ≤ (sl l).length) && subAt (sl l) (sl p) 0) = _
  rw [subAt_eq, sl_len, sl_len, sl_cps, sl_cps, Nat.zero_add]
  rfl
theorem at_sl (l p : List Nat) (i : Nat) : StrLaws.At (sl l) (sl p) (sl l).length i ↔ i + p.length ≤ l.length ∧ (l.drop i).take p.length = p := by
  unfold StrLaws.At
  rw [subAt_eq, sl_len, sl_len, sl_cps, sl_cps, beq_iff_eq]
theorem index_of {l p : List Nat} {k : Nat} (hk : k + p.length ≤ l.length) (h : (l.drop k).take p.length = p) (hn : ∀ j, j < k → (l.drop j).take p.length ≠ p) : Txt.index0 (sl l) (sl p) = some k := by
  unfold Txt.index0
  have ha := (at_sl l p k).mpr ⟨hk, h⟩
  rcases StrLaws.occ_head (sl l) (sl p) 1 (Nat.le_refl _) with ⟨_, no⟩ | ⟨i, r, e, hi, no⟩
  · exact absurd ha (no k)
  · rw [e]
    have : i = k := by
      rcases Nat.lt_trichotomy i k with h1 | h1 | h1
      · exact absurd ((at_sl l p i).mp hi).2 (hn i h1)
      · exact h1
      · exact absurd ha (no k h1)
    rw [this]
    rfl
theorem in_of {l p : List Nat} {k : Nat} (hk : k + p.length ≤ l.length) (h : (l.drop k).take p.length = p) : inStr (sl p) (sl l) = true := by
  unfold inStr
  exact (StrLaws.found_iff (sl l) (sl p)).mpr ⟨k, (at_sl l p k).mpr ⟨hk, h⟩⟩
theorem rg1_n {n : Int} {ρ : Rho} (h0 : 0 ≤ n) (h : n ≤ 1000000) : rg1 ρ [.int n] = .ok (rangeL 0 n) ρ := by
  have h1 : -(2 ^ 62) ≤ n := Int.le_trans (by decide) h0
  have h2 : n < 2 ^ 62 := Int.lt_of_le_of_lt h (by decide)
  exact if_pos ⟨h1, h2⟩
theorem rng_ok {ds : DD (List PV)} {ρ : Rho} {n : Int} (h : ds ρ = .ok [.int n] ρ) (h0 : 0 ≤ n) (h1 : n ≤ 1000000) : dRange1 ds ρ = .ok (rangeL 0 n) ρ := by
  have g : -4611686018427387904 ≤ n ∧ n < 4611686018427387904 := by omega
  rw [e_rga, h]
  exact rg1_n h0 h1
theorem pNe_self (i : Int) : pNe (.int i) (.int i) = some (.bl false) := by
  rw [pNe_i, decide_eq_true rfl]
  rfl
end Pl

set_option maxHeartbeats 4000000
/-! S9a: cut. -/
namespace Pl
open PySem PySem.Spec PyProof.Rows L2
section
variable (E : Env)
def CS (L : List Nat) (ps : List (List Nat)) (cur : List Nat) (d : Int) (k : Nat) (sg : Option SV) : Rho :=
  [some (.val (.str (sl L))), some (.own (.lst (ps.map (fun p => .str (sl p)) ++ [.str (sl cur)]))), some (.val (.int d)), some (.val (.int k)), sg]
theorem l_comma : (", " : Str) = sl [44, 32] := by kernel_rfl
theorem l_par : (")" : Str) = sl [41] := by kernel_rfl
theorem l_opn : ("(" : Str) = sl [40] := by kernel_rfl
theorem l_blank : (" " : Str) = sl [32] := by kernel_rfl
theorem l_nil : ("" : Str) = sl [] := by kernel_rfl
theorem cut_step {L cur : List Nat} {ps : List (List Nat)} {d : Int} {k a : Nat} {sg : Option SV} (hL : L.length ≤ 100000) (hk : L[k]? = some a) (hc : cur.length ≤ 100000) (asc : Asc L) (h0 : 0 ≤ d + valC a) (h1 : d + valC a ≠ 0 ∨ a ≠ 44) (n : Nat) :
    whileL (t_cut_0 E) (w_cut_1 E) (n + 1) (CS L ps cur d k sg) = whileL (t_cut_0 E) (w_cut_1 E) n (CS L ps (cur ++ [a]) (d + valC a) (k + 1) (some (.val (.str (sl [a]))))) := by
  have hlt : k < L.length := (List.getElem?_eq_some_iff.mp hk).1
  have hL2 : L.length ≤ LIM := by unfold LIM; omega
  have hx := pIx_nat L k a hk hL2
  have hs := pSl_sl L (some (k : Int)) (some ((k : Int) + 2)) (by unfold LIM; omega)
  have hc1 : Asc (cutL L (some (k : Int)) (some ((k : Int) + 2))) := asc.sub fun x m => by
    unfold cutL at m
    exact List.mem_of_mem_drop (List.mem_of_mem_take m)
  have hq := pEq_str (asc_ok hc1) (asc_ok (l := [44, 32]) (by decide))
  refine while_nx ?_ ?_
  · simp [t_cut_0, CS, fLen, hlt, hL2]
  · have pk : ∀ ρ : Rho, ρ[4]? = some (some (.val (.str (sl [a])))) → dPickG [("(", (dC (.int 1))), (")", (dC (.int (-1))))] (dVar 4) (dC (.int 0)) ρ = .ok (.int (valC a)) ρ := fun ρ h => pickC a h
    have h2 : ¬ (d + valC a < 0) := by omega
    have hne : d + valC a = 0 → ¬ (sl (cutL L (some (k : Int)) (some ((k : Int) + 2))) = sl [44, 32]) := fun z e => by
      have e := sl_inj e
      have n44 : a ≠ 44 := h1.elim (fun h => absurd z h) id
      have : (cutL L (some (k : Int)) (some ((k : Int) + 2)))[0]? = some a := by
        unfold cutL
        rw [HT.sIx_nat, show ((k : Int) + 2) = ((k + 2 : Nat) : Int) by omega, HT.sIx_nat, Nat.min_eq_left (Nat.le_of_lt hlt), List.getElem?_take, if_pos (by omega), List.getElem?_drop]
        exact hk
      rw [e] at this
      cases this
      exact n44 rfl
    have ha : cur.length + 1 ≤ LIM := by unfold LIM; omega
    by_cases z : d + valC a = 0
    · have hne := hne z
      simp [w_cut_1, CS, hx, pk, h2, z, hs, l_comma, hq, hne, at_last, ixN_m1, sl_app, ha]
    · simp [w_cut_1, CS, hx, pk, h2, z, at_last, ixN_m1, sl_app, ha]
theorem cut_part {L cur : List Nat} {ps : List (List Nat)} {k : Nat} {sg : Option SV} (hL : L.length ≤ 100000) (hk : L[k]? = some 44) (hk2 : L[k + 1]? = some 32) (hp : ps.length ≤ 1000) (n : Nat) :
    whileL (t_cut_0 E) (w_cut_1 E) (n + 1) (CS L ps cur 0 k sg) = whileL (t_cut_0 E) (w_cut_1 E) n (CS L (ps ++ [cur]) [] 0 (k + 2) (some (.val (.str (sl [44]))))) := by
  have hlt : k < L.length := (List.getElem?_eq_some_iff.mp hk).1
  have hL2 : L.length ≤ LIM := by unfold LIM; omega
  have hx := pIx_nat L k 44 hk hL2
  have hs := pSl_sl L (some (k : Int)) (some ((k : Int) + 2)) (by unfold LIM; omega)
  have hc : cutL L (some (k : Int)) (some ((k : Int) + 2)) = [44, 32] := by
    have hlt2 : k + 1 < L.length := (List.getElem?_eq_some_iff.mp hk2).1
    unfold cutL
    rw [HT.sIx_nat, show ((k : Int) + 2) = ((k + 2 : Nat) : Int) by omega, HT.sIx_nat, Nat.min_eq_left (Nat.le_of_lt hlt), Nat.min_eq_left (by omega)]
    rw [show k + 2 - k = 2 by omega]
    rw [List.drop_eq_getElem_cons hlt, List.drop_eq_getElem_cons hlt2]
    have e1 : L[k] = 44 := by have := List.getElem?_eq_getElem hlt; rw [this] at hk; exact Option.some.inj hk
    have e2 : L[k + 1] = 32 := by have := List.getElem?_eq_getElem hlt2; rw [this] at hk2; exact Option.some.inj hk2
    rw [e1, e2]
    rfl
  rw [hc] at hs
  have hq : pEq (.str (sl [44, 32])) (.str (sl [44, 32])) = some (.bl true) := by kernel_rfl
  refine while_nx ?_ ?_
  · simp [t_cut_0, CS, fLen, hlt, hL2]
  · have pk : ∀ ρ : Rho, ρ[4]? = some (some (.val (.str (sl [44])))) → dPickG [("(", (dC (.int 1))), (")", (dC (.int (-1))))] (dVar 4) (dC (.int 0)) ρ = .ok (.int 0) ρ := fun ρ h => pickC 44 h
    have h2 : ps.length + 1 < LIM := by unfold LIM; omega
    simp [w_cut_1, CS, hx, pk, hs, l_comma, hq, h2, l_nil]
end
end Pl

set_option maxHeartbeats 4000000
/-! S9b: the texts of regions. -/
namespace Pl
open PySem PySem.Spec PyProof.Rows L2
/-- the text of a number -/
def nm (i : Int) : List Nat := lt (Str.ofString (toString i))
def small (a : Int) : Prop := -6 ≤ a ∧ a ≤ 9
def nmGood (a : Int) : Bool := decide (Asc (nm a)) && (nm a).all (fun c => c != 32 && c != 40 && c != 41 && c != 44 && c != 10) && decide (0 < (nm a).length) && decide ((nm a).length ≤ 2) &&
  (match (env 1).p_number_of [.str (sl (nm a))] with
    | .ok (.int b) => b == a
    | _ => false)
theorem nm_good (a : Int) (h : small a) : nmGood a = true := by
  have : a = -6 ∨ a = -5 ∨ a = -4 ∨ a = -3 ∨ a = -2 ∨ a = -1 ∨ a = 0 ∨ a = 1 ∨ a = 2 ∨ a = 3 ∨ a = 4 ∨ a = 5 ∨ a = 6 ∨ a = 7 ∨ a = 8 ∨ a = 9 := by
    have := h.1
    have := h.2
    omega
  rcases this with rfl | rfl | rfl | rfl | rfl | rfl | rfl | rfl | rfl | rfl | rfl | rfl | rfl | rfl | rfl | rfl <;> kernel_rfl
structure NmOk (a : Int) : Prop where
  asc : Asc (nm a)
  no : ∀ c ∈ nm a, c ≠ 32 ∧ c ≠ 40 ∧ c ≠ 41 ∧ c ≠ 44 ∧ c ≠ 10
  pos : 0 < (nm a).length
  len : (nm a).length ≤ 2
  num : (env 1).p_number_of [.str (sl (nm a))] = .ok (.int a)
theorem nm_ok {a : Int} (h : small a) : NmOk a := by
  have g := nm_good a h
  unfold nmGood at g
  simp only [Bool.and_eq_true] at g
  obtain ⟨⟨⟨⟨g1, g2⟩, g3⟩, g4⟩, g5⟩ := g
  refine ⟨of_decide_eq_true g1, fun c hc => ?_, of_decide_eq_true g3, of_decide_eq_true g4, ?_⟩
  · have := List.all_eq_true.mp g2 c hc
    simp only [Bool.and_eq_true, bne_iff_ne] at this
    obtain ⟨⟨⟨⟨a1, a2⟩, a3⟩, a4⟩, a5⟩ := this
    exact ⟨a1, a2, a3, a4, a5⟩
  · split at g5
    · rename_i b e
      rw [e, beq_iff_eq.mp g5]
    · cases g5
/-- a word and numbers -/
def txw (w : Str) (ns : List Int) : List Nat := lt w ++ (ns.map fun a => 32 :: nm a).flatten
def tx : Rg → List Nat
  | .all => txw "all" []
  | .none => txw "none" []
  | .high a => txw "high" [a]
  | .wide a => txw "wide" [a]
  | .border a => txw "border" [a]
  | .rows a k => txw "rows" [a, k]
  | .rowsUp a k => txw "rows_up" [a, k]
  | .cols a k => txw "cols" [a, k]
  | .colsBack a k => txw "cols_back" [a, k]
  | .and x y => lt "and" ++ 40 :: (tx x ++ 44 :: 32 :: tx y ++ [41])
  | .or x y => lt "or" ++ 40 :: (tx x ++ 44 :: 32 :: tx y ++ [41])
  | .not x => lt "not" ++ 40 :: (tx x ++ [41])
  | .mirror x => lt "mirror" ++ 40 :: (tx x ++ [41])
  | .flip x => lt "flip" ++ 40 :: (tx x ++ [41])
  | .turn x => lt "turn" ++ 40 :: (tx x ++ [41])
  | .move p q x => lt "move" ++ 40 :: (((nm p ++ 32 :: nm q) ++ 44 :: 32 :: tx x) ++ [41])
/-- brackets: nothing parted, never deeper than B -/
def Wk (B : Int) : Int → List Nat → Int → Prop
  | d, [], e => d = e
  | d, a :: l, e => (0 ≤ d + valC a ∧ d + valC a ≤ B ∧ (d + valC a ≠ 0 ∨ a ≠ 44)) ∧ Wk B (d + valC a) l e
theorem Wk.app {B : Int} : ∀ {l r : List Nat} {d e f : Int}, Wk B d l e → Wk B e r f → Wk B d (l ++ r) f
  | [], _, _, _, _, h, g => by cases h; exact g
  | _ :: _, _, _, _, _, h, g => ⟨h.1, Wk.app h.2 g⟩
theorem Wk.plain {B : Int} : ∀ {l : List Nat} {d : Int}, 0 ≤ d → d ≤ B → (∀ c ∈ l, c ≠ 40 ∧ c ≠ 41) → (0 < d ∨ ∀ c ∈ l, c ≠ 44) → Wk B d l d
  | [], _, _, _, _, _ => rfl
  | a :: l, d, h0, hB, h, h4 => by
    have v : valC a = 0 := by
      unfold valC
      rw [if_neg (h a List.mem_cons_self).1, if_neg (h a List.mem_cons_self).2]
    refine ⟨⟨by omega, by omega, ?_⟩, ?_⟩
    · rw [v]
      exact h4.imp (fun z => by omega) fun z => z a List.mem_cons_self
    · rw [v, Int.add_zero]
      exact Wk.plain h0 hB (fun c m => h c (List.mem_cons_of_mem _ m)) (h4.imp id fun z c m => z c (List.mem_cons_of_mem _ m))
/-- within brackets -/
theorem Wk.br {B d : Int} {w l : List Nat} (h0 : 0 ≤ d) (hB : d + 1 ≤ B) (hw : ∀ c ∈ w, c ≠ 40 ∧ c ≠ 41 ∧ c ≠ 44) (h : Wk B (d + 1) l (d + 1)) : Wk B d (w ++ 40 :: (l ++ [41])) d := by
  refine Wk.app (Wk.plain h0 (by omega) (fun c m => ⟨(hw c m).1, (hw c m).2.1⟩) (.inr fun c m => (hw c m).2.2)) ⟨⟨?_, ?_, .inr (by decide)⟩, ?_⟩
  · show 0 ≤ d + 1
    omega
  · show d + 1 ≤ B
    omega
  · refine Wk.app h ⟨⟨?_, ?_, .inr (by decide)⟩, ?_⟩
    · show 0 ≤ d + 1 + -1
      omega
    · show d + 1 + -1 ≤ B
      omega
    · show d + 1 + -1 = d
      omega
theorem Wk.two {B d : Int} {a b : List Nat} (h0 : 0 < d) (hB : d ≤ B) (h1 : Wk B d a d) (h2 : Wk B d b d) : Wk B d (a ++ 44 :: 32 :: b) d := by
  refine Wk.app h1 (Wk.app (l := [44, 32]) (e := d) (Wk.plain (by omega) hB (by decide) (.inl h0)) h2)
def wordOk (w : Str) : Bool := (lt w).all (fun c => c != 32 && c != 40 && c != 41 && c != 44 && c != 10 && decide (c < 128)) && decide ((lt w).length ≤ 9) && decide (0 < (lt w).length)
structure WOk (w : Str) : Prop where
  asc : Asc (lt w)
  no : ∀ c ∈ lt w, c ≠ 32 ∧ c ≠ 40 ∧ c ≠ 41 ∧ c ≠ 44 ∧ c ≠ 10
  len : (lt w).length ≤ 9
  pos : 0 < (lt w).length
theorem w_ok {w : Str} (h : wordOk w = true) : WOk w := by
  unfold wordOk at h
  simp only [Bool.and_eq_true] at h
  obtain ⟨⟨h1, h2⟩, h3⟩ := h
  have k : ∀ c ∈ lt w, (c ≠ 32 ∧ c ≠ 40 ∧ c ≠ 41 ∧ c ≠ 44 ∧ c ≠ 10) ∧ c < 128 := fun c hc => by
    have := List.all_eq_true.mp h1 c hc
    simp only [Bool.and_eq_true, bne_iff_ne, decide_eq_true_eq] at this
    obtain ⟨⟨⟨⟨⟨a1, a2⟩, a3⟩, a4⟩, a5⟩, a6⟩ := this
    exact ⟨⟨a1, a2, a3, a4, a5⟩, a6⟩
  exact ⟨fun c hc => (k c hc).2, fun c hc => (k c hc).1, of_decide_eq_true h2, of_decide_eq_true h3⟩
structure TxOk (l : List Nat) (n : Nat) : Prop where
  asc : Asc l
  nl : ∀ c ∈ l, c ≠ 10
  pos : 0 < l.length
  len : l.length + 20 ≤ n
theorem txw_no {w : Str} (hw : WOk w) {ns : List Int} (hs : ∀ a ∈ ns, small a) : ∀ c ∈ txw w ns, (c ≠ 40 ∧ c ≠ 41 ∧ c ≠ 44 ∧ c ≠ 10) ∧ c < 128 := by
  intro c hc
  rcases List.mem_append.mp hc with m | m
  · exact ⟨⟨(hw.no c m).2.1, (hw.no c m).2.2.1, (hw.no c m).2.2.2.1, (hw.no c m).2.2.2.2⟩, hw.asc c m⟩
  · rw [List.mem_flatten] at m
    obtain ⟨l, hl, m⟩ := m
    obtain ⟨a, ha, rfl⟩ := List.mem_map.mp hl
    rcases List.mem_cons.mp m with rfl | m
    · decide
    · have k := nm_ok (hs a ha)
      exact ⟨⟨(k.no c m).2.1, (k.no c m).2.2.1, (k.no c m).2.2.2.1, (k.no c m).2.2.2.2⟩, k.asc c m⟩
theorem txw_len {w : Str} (hw : WOk w) : ∀ {ns : List Int}, (∀ a ∈ ns, small a) → (txw w ns).length ≤ 9 + 3 * ns.length
  | [], _ => by
    have := hw.len
    simp [txw]
    omega
  | a :: ns, h => by
    have := txw_len hw (ns := ns) fun b m => h b (List.mem_cons_of_mem _ m)
    have := (nm_ok (h a List.mem_cons_self)).len
    simp [txw] at *
    omega
theorem txw_ok {w : Str} (hw : WOk w) {ns : List Int} (hs : ∀ a ∈ ns, small a) (hl : ns.length ≤ 2) {n : Nat} (hn : 40 ≤ n) : TxOk (txw w ns) n := by
  refine ⟨fun c m => (txw_no hw hs c m).2, fun c m => (txw_no hw hs c m).1.2.2.2, ?_, ?_⟩
  · have := hw.pos
    simp [txw]
    omega
  · have := txw_len hw hs
    omega
theorem txw_wk {w : Str} (hw : WOk w) {ns : List Int} (hs : ∀ a ∈ ns, small a) {B d : Int} (h0 : 0 ≤ d) (hB : d ≤ B) : Wk B d (txw w ns) d :=
  Wk.plain h0 hB (fun c m => ⟨(txw_no hw hs c m).1.1, (txw_no hw hs c m).1.2.1⟩) (.inr fun c m => (txw_no hw hs c m).1.2.2.1)
theorem TxOk.br {l : List Nat} {n m : Nat} {w : Str} (hw : WOk w) (h : TxOk l n) (hm : n + 11 ≤ m) : TxOk (lt w ++ 40 :: (l ++ [41])) m := by
  refine ⟨hw.asc.app (.cons (by decide) (h.asc.app (by decide))), fun c hc => ?_, by simp; omega, ?_⟩
  · simp only [List.mem_append, List.mem_cons, List.mem_nil_iff, or_false] at hc
    rcases hc with m | rfl | m | rfl
    · exact (hw.no c m).2.2.2.2
    · decide
    · exact h.nl c m
    · decide
  · have := h.len
    have := hw.len
    simp
    omega
theorem TxOk.two {a b : List Nat} {n m k : Nat} (h : TxOk a n) (g : TxOk b m) (hk : n + m ≤ k + 18) : TxOk (a ++ 44 :: 32 :: b) k := by
  refine ⟨h.asc.app (.cons (by decide) (.cons (by decide) g.asc)), fun c hc => ?_, by have := h.pos; simp; omega, ?_⟩
  · simp only [List.mem_append, List.mem_cons] at hc
    rcases hc with m | rfl | rfl | m
    · exact h.nl c m
    · decide
    · decide
    · exact g.nl c m
  · have := h.len
    have := g.len
    simp
    omega
theorem small_of {a : Int} (h : 0 ≤ a ∧ a ≤ 9) : small a := ⟨by omega, h.2⟩
theorem small_of6 {a : Int} (h : 0 ≤ a ∧ a ≤ 6) : small a := ⟨by omega, by omega⟩
theorem small_of7 {a : Int} (h : -6 ≤ a ∧ a ≤ 6) : small a := ⟨h.1, by omega⟩
theorem sm1 {a : Int} (h : small a) : ∀ b ∈ [a], small b := by simpa using h
theorem sm2 {a k : Int} (h : small a) (g : small k) : ∀ b ∈ [a, k], small b := by
  intro b m
  simp at m
  rcases m with rfl | rfl <;> assumption
theorem pw (d : Nat) : 2 ^ (d + 1) = 2 * 2 ^ d := by rw [Nat.pow_succ]; omega
theorem num_tx {p q : Int} (hp : small p) (hq : small q) : TxOk (nm p ++ 32 :: nm q) 25 := by
  have a := nm_ok hp
  have b := nm_ok hq
  refine ⟨a.asc.app (.cons (by decide) b.asc), fun c hc => ?_, by simp; omega, ?_⟩
  · simp only [List.mem_append, List.mem_cons] at hc
    rcases hc with m | rfl | m
    · exact (a.no c m).2.2.2.2
    · decide
    · exact (b.no c m).2.2.2.2
  · have := a.len
    have := b.len
    simp
    omega
theorem num_no {p q : Int} (hp : small p) (hq : small q) : ∀ c ∈ nm p ++ 32 :: nm q, c ≠ 40 ∧ c ≠ 41 ∧ c ≠ 44 := by
  intro c hc
  simp only [List.mem_append, List.mem_cons] at hc
  rcases hc with m | rfl | m
  · exact ⟨((nm_ok hp).no c m).2.1, ((nm_ok hp).no c m).2.2.1, ((nm_ok hp).no c m).2.2.2.1⟩
  · decide
  · exact ⟨((nm_ok hq).no c m).2.1, ((nm_ok hq).no c m).2.2.1, ((nm_ok hq).no c m).2.2.2.1⟩
theorem W_all : WOk "all" := w_ok (by kernel_rfl)
theorem W_none : WOk "none" := w_ok (by kernel_rfl)
theorem W_high : WOk "high" := w_ok (by kernel_rfl)
theorem W_wide : WOk "wide" := w_ok (by kernel_rfl)
theorem W_border : WOk "border" := w_ok (by kernel_rfl)
theorem W_rows : WOk "rows" := w_ok (by kernel_rfl)
theorem W_rows_up : WOk "rows_up" := w_ok (by kernel_rfl)
theorem W_cols : WOk "cols" := w_ok (by kernel_rfl)
theorem W_cols_back : WOk "cols_back" := w_ok (by kernel_rfl)
theorem W_and : WOk "and" := w_ok (by kernel_rfl)
theorem W_or : WOk "or" := w_ok (by kernel_rfl)
theorem W_not : WOk "not" := w_ok (by kernel_rfl)
theorem W_mirror : WOk "mirror" := w_ok (by kernel_rfl)
theorem W_flip : WOk "flip" := w_ok (by kernel_rfl)
theorem W_turn : WOk "turn" := w_ok (by kernel_rfl)
theorem W_move : WOk "move" := w_ok (by kernel_rfl)
theorem two_pos (d : Nat) : 1 ≤ 2 ^ d := Nat.one_le_two_pow
theorem two_ok {w : Str} (hw : WOk w) {a b : List Nat} {d e : Nat} (h : TxOk a (40 * 2 ^ d)) (g : TxOk b (40 * 2 ^ e)) : TxOk (lt w ++ 40 :: (a ++ 44 :: 32 :: b ++ [41])) (40 * 2 ^ (max d e + 1)) := by
  have e1 : 2 ^ d ≤ 2 ^ max d e := Nat.pow_le_pow_right (by omega) (Nat.le_max_left ..)
  have e2 : 2 ^ e ≤ 2 ^ max d e := Nat.pow_le_pow_right (by omega) (Nat.le_max_right ..)
  have e3 := two_pos (max d e)
  have e4 := pw (max d e)
  exact (h.two g (k := 80 * 2 ^ max d e - 18) (by omega)).br hw (by omega)
theorem one_ok {w : Str} (hw : WOk w) {a : List Nat} {d : Nat} (h : TxOk a (40 * 2 ^ d)) : TxOk (lt w ++ 40 :: (a ++ [41])) (40 * 2 ^ (d + 1)) := by
  have e3 := two_pos d
  have e4 := pw d
  exact h.br hw (by omega)
theorem move_ok {p q : Int} (hp : -6 ≤ p ∧ p ≤ 6) (hq : -6 ≤ q ∧ q ≤ 6) {a : List Nat} {d : Nat} (h : TxOk a (40 * 2 ^ d)) : TxOk (lt "move" ++ 40 :: (((nm p ++ 32 :: nm q) ++ 44 :: 32 :: a) ++ [41])) (40 * 2 ^ (d + 1)) := by
  have e3 := two_pos d
  have e4 := pw d
  exact ((num_tx (small_of7 hp) (small_of7 hq)).two h (k := 40 * 2 ^ d + 7) (by omega)).br W_move (by omega)
theorem tx_ok : ∀ (r : Rg), r.Ok → TxOk (tx r) (40 * 2 ^ r.dep)
  | .all, _ => txw_ok W_all (by simp) (by simp) (by simp [Rg.dep])
  | .none, _ => txw_ok W_none (by simp) (by simp) (by simp [Rg.dep])
  | .high a, h => txw_ok W_high (sm1 (small_of h)) (by simp) (by simp [Rg.dep])
  | .wide a, h => txw_ok W_wide (sm1 (small_of h)) (by simp) (by simp [Rg.dep])
  | .border a, h => txw_ok W_border (sm1 (small_of h)) (by simp) (by simp [Rg.dep])
  | .rows a k, h => txw_ok W_rows (sm2 (small_of h.1) (small_of6 h.2)) (by simp) (by simp [Rg.dep])
  | .rowsUp a k, h => txw_ok W_rows_up (sm2 (small_of h.1) (small_of6 h.2)) (by simp) (by simp [Rg.dep])
  | .cols a k, h => txw_ok W_cols (sm2 (small_of h.1) (small_of6 h.2)) (by simp) (by simp [Rg.dep])
  | .colsBack a k, h => txw_ok W_cols_back (sm2 (small_of h.1) (small_of6 h.2)) (by simp) (by simp [Rg.dep])
  | .and x y, h => two_ok W_and (tx_ok x h.1) (tx_ok y h.2)
  | .or x y, h => two_ok W_or (tx_ok x h.1) (tx_ok y h.2)
  | .not x, h => one_ok W_not (tx_ok x h)
  | .mirror x, h => one_ok W_mirror (tx_ok x h)
  | .flip x, h => one_ok W_flip (tx_ok x h)
  | .turn x, h => one_ok W_turn (tx_ok x h)
  | .move p q x, h => move_ok h.1 h.2.1 (tx_ok x h.2.2)
theorem tx_wk : ∀ (r : Rg), r.Ok → ∀ {B d : Int}, 0 ≤ d → d + r.dep ≤ B + 1 → Wk B d (tx r) d
  | .all, _, B, d, h0, hB => txw_wk W_all (by simp) h0 (by simp only [Rg.dep] at hB; omega)
  | .none, _, B, d, h0, hB => txw_wk W_none (by simp) h0 (by simp only [Rg.dep] at hB; omega)
  | .high a, h, B, d, h0, hB => txw_wk W_high (sm1 (small_of h)) h0 (by simp only [Rg.dep] at hB; omega)
  | .wide a, h, B, d, h0, hB => txw_wk W_wide (sm1 (small_of h)) h0 (by simp only [Rg.dep] at hB; omega)
  | .border a, h, B, d, h0, hB => txw_wk W_border (sm1 (small_of h)) h0 (by simp only [Rg.dep] at hB; omega)
  | .rows a k, h, B, d, h0, hB => txw_wk W_rows (sm2 (small_of h.1) (small_of6 h.2)) h0 (by simp only [Rg.dep] at hB; omega)
  | .rowsUp a k, h, B, d, h0, hB => txw_wk W_rows_up (sm2 (small_of h.1) (small_of6 h.2)) h0 (by simp only [Rg.dep] at hB; omega)
  | .cols a k, h, B, d, h0, hB => txw_wk W_cols (sm2 (small_of h.1) (small_of6 h.2)) h0 (by simp only [Rg.dep] at hB; omega)
  | .colsBack a k, h, B, d, h0, hB => txw_wk W_cols_back (sm2 (small_of h.1) (small_of6 h.2)) h0 (by simp only [Rg.dep] at hB; omega)
  | .and x y, h, B, d, h0, hB => by
    have := dep_pos x
    simp only [Rg.dep] at hB
    exact Wk.br h0 (by omega) (fun c m => ⟨(W_and.no c m).2.1, (W_and.no c m).2.2.1, (W_and.no c m).2.2.2.1⟩) (Wk.two (by omega) (by omega) (tx_wk x h.1 (by omega) (by omega)) (tx_wk y h.2 (by omega) (by omega)))
  | .or x y, h, B, d, h0, hB => by
    have := dep_pos x
    simp only [Rg.dep] at hB
    exact Wk.br h0 (by omega) (fun c m => ⟨(W_or.no c m).2.1, (W_or.no c m).2.2.1, (W_or.no c m).2.2.2.1⟩) (Wk.two (by omega) (by omega) (tx_wk x h.1 (by omega) (by omega)) (tx_wk y h.2 (by omega) (by omega)))
  | .not x, h, B, d, h0, hB => by
    have := dep_pos x
    simp only [Rg.dep] at hB
    exact Wk.br h0 (by omega) (fun c m => ⟨(W_not.no c m).2.1, (W_not.no c m).2.2.1, (W_not.no c m).2.2.2.1⟩) (tx_wk x h (by omega) (by omega))
  | .mirror x, h, B, d, h0, hB => by
    have := dep_pos x
    simp only [Rg.dep] at hB
    exact Wk.br h0 (by omega) (fun c m => ⟨(W_mirror.no c m).2.1, (W_mirror.no c m).2.2.1, (W_mirror.no c m).2.2.2.1⟩) (tx_wk x h (by omega) (by omega))
  | .flip x, h, B, d, h0, hB => by
    have := dep_pos x
    simp only [Rg.dep] at hB
    exact Wk.br h0 (by omega) (fun c m => ⟨(W_flip.no c m).2.1, (W_flip.no c m).2.2.1, (W_flip.no c m).2.2.2.1⟩) (tx_wk x h (by omega) (by omega))
  | .turn x, h, B, d, h0, hB => by
    have := dep_pos x
    simp only [Rg.dep] at hB
    exact Wk.br h0 (by omega) (fun c m => ⟨(W_turn.no c m).2.1, (W_turn.no c m).2.2.1, (W_turn.no c m).2.2.2.1⟩) (tx_wk x h (by omega) (by omega))
  | .move p q x, h, B, d, h0, hB => by
    have := dep_pos x
    simp only [Rg.dep] at hB
    have w := num_no (small_of7 h.1) (small_of7 h.2.1)
    exact Wk.br h0 (by omega) (fun c m => ⟨(W_move.no c m).2.1, (W_move.no c m).2.2.1, (W_move.no c m).2.2.2.1⟩) (Wk.two (by omega) (by omega) (Wk.plain (by omega) (by omega) (fun c m => ⟨(w c m).1, (w c m).2.1⟩) (.inl (by omega))) (tx_wk x h.2.2 (by omega) (by omega)))
end Pl

set_option maxHeartbeats 4000000
/-! S9c: what cut and brackets say of texts. -/
namespace Pl
open PySem PySem.Spec PyProof.Rows L2
section
variable (E : Env)
theorem cut_eat {B : Int} : ∀ (seg : List Nat) {L pre post cur : List Nat} {ps : List (List Nat)} {d e : Int} {sg : Option SV} (hL : L = pre ++ (seg ++ post)) (hn : L.length ≤ 100000) (hc : cur.length + seg.length ≤ 100000) (asc : Asc L) (w : Wk B d seg e) (n : Nat),
    ∃ sg', whileL (t_cut_0 E) (w_cut_1 E) (n + seg.length) (CS L ps cur d pre.length sg) = whileL (t_cut_0 E) (w_cut_1 E) n (CS L ps (cur ++ seg) e (pre.length + seg.length) sg')
  | [], L, pre, post, cur, ps, d, e, sg, hL, hn, hc, asc, w, n => by
    cases w
    refine ⟨sg, ?_⟩
    rw [List.append_nil]
    rfl
  | a :: seg, L, pre, post, cur, ps, d, e, sg, hL, hn, hc, asc, w, n => by
    have hc : cur.length + (seg.length + 1) ≤ 100000 := hc
    have ha : L[pre.length]? = some a := by
      rw [hL]
      simp
    have h1 := cut_step E (ps := ps) (sg := sg) hn ha (cur := cur) (by omega) asc w.1.1 w.1.2.2 (n + seg.length)
    obtain ⟨sg', h2⟩ := cut_eat seg (L := L) (pre := pre ++ [a]) (post := post) (cur := cur ++ [a]) (ps := ps) (sg := some (.val (.str (sl [a])))) (by rw [hL]; simp) hn (by simp; omega) asc w.2 n
    refine ⟨sg', Eq.trans h1 ?_⟩
    simp only [List.length_append, List.length_cons, List.length_nil, List.append_assoc, List.cons_append, List.nil_append, Nat.zero_add] at h2
    rw [h2]
    simp only [List.length_cons]
    rw [Nat.add_assoc, Nat.add_comm 1]
theorem cut_open {L : List Nat} : fin (d_cut E (st0 5 [.str (sl L)])) = fin (thn2 (sRet (dIf (dAsB (dBin pEq (dVar 2) (dC (.int 0)))) (dRd 1) (dC .non))) (whileL (t_cut_0 E) (w_cut_1 E) 1000000 (CS L [] [] 0 0 none))) := by
  simp [d_cut, st0, l_nil, CS]
theorem cut_close {L cur : List Nat} {ps : List (List Nat)} {sg : Option SV} (hn : L.length ≤ 100000) (n : Nat) :
    fin (thn2 (sRet (dIf (dAsB (dBin pEq (dVar 2) (dC (.int 0)))) (dRd 1) (dC .non))) (whileL (t_cut_0 E) (w_cut_1 E) (n + 1) (CS L ps cur 0 L.length sg))) = .ok (.lst ((ps ++ [cur]).map fun p => .str (sl p))) := by
  have hL2 : L.length ≤ LIM := by unfold LIM; omega
  rw [while_end (by simp [t_cut_0, CS, fLen, hL2])]
  simp [CS]
theorem cut_one {t : List Nat} {B : Int} (h : Wk B 0 t 0) (asc : Asc t) (hn : t.length ≤ 100000) (e : Nat) : (env (e + 1)).p_cut [.str (sl t)] = .ok (.lst [.str (sl t)]) := by
  show runB 5 (d_cut (env e)) _ = _
  rw [runB_fin, cut_open]
  generalize env e = E
  obtain ⟨sg, h1⟩ := cut_eat E t (L := t) (pre := []) (post := []) (cur := []) (ps := []) (sg := none) (by simp) hn (by simpa using hn) asc h (1000000 - t.length)
  rw [show 1000000 - t.length + t.length = 1000000 by omega] at h1
  have h1 : whileL (t_cut_0 E) (w_cut_1 E) 1000000 (CS t [] [] 0 0 none) = _ := h1
  rw [h1]
  have h2 := cut_close E (cur := t) (ps := []) (sg := sg) hn (1000000 - t.length - 1)
  rw [show 1000000 - t.length - 1 + 1 = 1000000 - t.length by omega] at h2
  simpa using h2
theorem cut_two {a b : List Nat} {B : Int} (h : Wk B 0 a 0) (g : Wk B 0 b 0) (ha : Asc a) (hb : Asc b) (hn : a.length + b.length ≤ 99990) (e : Nat) : (env (e + 1)).p_cut [.str (sl (a ++ 44 :: 32 :: b))] = .ok (.lst [.str (sl a), .str (sl b)]) := by
  show runB 5 (d_cut (env e)) _ = _
  rw [runB_fin, cut_open]
  generalize env e = E
  have asc : Asc (a ++ 44 :: 32 :: b) := ha.app (.cons (by decide) (.cons (by decide) hb))
  have hl : (a ++ 44 :: 32 :: b).length = a.length + 2 + b.length := by simp; omega
  obtain ⟨sg, h1⟩ := cut_eat E a (L := a ++ 44 :: 32 :: b) (pre := []) (post := 44 :: 32 :: b) (cur := []) (ps := []) (sg := none) (by simp) (by omega) (by simp; omega) asc h (1000000 - a.length)
  rw [show 1000000 - a.length + a.length = 1000000 by omega] at h1
  have h1 : whileL (t_cut_0 E) (w_cut_1 E) 1000000 (CS (a ++ 44 :: 32 :: b) [] [] 0 0 none) = _ := h1
  rw [h1]
  have h2 := cut_part E (L := a ++ 44 :: 32 :: b) (cur := [] ++ a) (ps := []) (k := ([] : List Nat).length + a.length) (sg := sg) (by omega) (by simp) (by simp) (by simp) (1000000 - a.length - 1)
  rw [show 1000000 - a.length - 1 + 1 = 1000000 - a.length by omega] at h2
  rw [h2]
  obtain ⟨sg2, h3⟩ := cut_eat E b (L := a ++ 44 :: 32 :: b) (pre := a ++ [44, 32]) (post := []) (cur := []) (ps := [a]) (sg := some (.val (.str (sl [44])))) (by simp) (by omega) (by simp; omega) asc g (1000000 - a.length - 1 - b.length)
  rw [show 1000000 - a.length - 1 - b.length + b.length = 1000000 - a.length - 1 by omega] at h3
  have e1 : (a ++ [44, 32]).length = ([] : List Nat).length + a.length + 2 := by simp
  rw [e1] at h3
  have h3 : whileL (t_cut_0 E) (w_cut_1 E) (1000000 - a.length - 1) (CS (a ++ 44 :: 32 :: b) ([] ++ [[] ++ a]) [] 0 (([] : List Nat).length + a.length + 2) (some (.val (.str (sl [44]))))) = _ := h3
  rw [h3]
  have h4 := cut_close E (L := a ++ 44 :: 32 :: b) (cur := b) (ps := [a]) (sg := sg2) (by omega) (1000000 - a.length - 1 - b.length - 1)
  rw [show 1000000 - a.length - 1 - b.length - 1 + 1 = 1000000 - a.length - 1 - b.length by omega, hl] at h4
  rw [show ([] : List Nat).length + a.length + 2 + b.length = a.length + 2 + b.length by simp]
  simpa using h4
theorem br_eat {B : Int} : ∀ (seg : List Nat) {t : PV} {f d e : Int} {sg : Option SV} (hf : f ≤ B) (w : Wk B d seg e),
    ∃ f' sg', f' ≤ B ∧ forL (.one 3) (b_brackets_0 E) (seg.map fun c => .str (sl [c])) [some (.val t), some (.val (.int f)), some (.val (.int d)), sg] = .nx [some (.val t), some (.val (.int f')), some (.val (.int e)), sg']
  | [], t, f, d, e, sg, hf, w => by
    cases w
    exact ⟨f, sg, hf, rfl⟩
  | a :: seg, t, f, d, e, sg, hf, w => by
    have pk : ∀ ρ : Rho, ρ[3]? = some (some (.val (.str (sl [a])))) → dPickG [("(", (dC (.int 1))), (")", (dC (.int (-1))))] (dVar 3) (dC (.int 0)) ρ = .ok (.int (valC a)) ρ := fun ρ h => pickC a h
    obtain ⟨f', sg', h1, h2⟩ := br_eat seg (t := t) (f := if d + valC a > f then d + valC a else f) (sg := some (.val (.str (sl [a])))) (by have := w.1.2.1; split <;> omega) w.2
    refine ⟨f', sg', h1, Eq.trans ?_ h2⟩
    refine forL_nx (ρ1 := [some (.val t), some (.val (.int f)), some (.val (.int d)), some (.val (.str (sl [a])))]) rfl ?_
    simp [b_brackets_0, pk]
theorem brackets_ok {t : List Nat} {B : Int} (h0 : 0 ≤ B) (h : Wk B 0 t 0) (e : Nat) : ∃ f : Int, f ≤ B ∧ (env (e + 1)).p_brackets [.str (sl t)] = .ok (.int f) := by
  obtain ⟨f, sg, h1, h2⟩ := br_eat (env e) t (t := .str (sl t)) (f := 0) (d := 0) (sg := none) h0 h
  refine ⟨f, h1, ?_⟩
  show runB 4 (d_brackets (env e)) _ = _
  rw [runB_fin]
  generalize env e = E at *
  have hs : signsP (sl t) = t.map fun c => .str (sl [c]) := by
    unfold signsP
    simp [sl]
  simp [d_brackets, st0, hs, h2]
end
end Pl

set_option maxHeartbeats 4000000
/-! S9d: texts are read to the same regions. -/
namespace Pl
open PySem PySem.Spec PyProof.Rows L2
theorem spl_nums {ns : List Int} (hs : ∀ a ∈ ns, small a) (w : List Nat) (hw : 32 ∉ w) : spl 32 (w ++ (ns.map fun a => 32 :: nm a).flatten) = w :: ns.map nm := by
  induction ns generalizing w with
  | nil => simpa using spl_no 32 w hw
  | cons a ns ih =>
    simp only [List.map_cons, List.flatten_cons, List.cons_append]
    rw [spl_app 32 w _ hw, ih (fun b m => hs b (List.mem_cons_of_mem _ m)) (nm a) (fun m => ((nm_ok (hs a List.mem_cons_self)).no 32 m).1 rfl)]
theorem number_of (e : Nat) {a : Int} (h : small a) : (env (e + 1)).p_number_of [.str (sl (nm a))] = .ok (.int a) := (nm_ok h).num
theorem noNone (ns : List Int) : pIn .non (.lst (ns.map .int)) = some (.bl false) :=
  no_none (fun p m => by obtain ⟨a, _, rfl⟩ := List.mem_map.mp m; exact .int a _) (fun p m => by obtain ⟨a, _, rfl⟩ := List.mem_map.mp m; rfl)
theorem rg_lay : ∀ r : Rg, Lay r.pv r.dep := by
  have st : ∀ {w : Str} {xs : List PV} {n : Nat}, PyData.strOk w = true → (∀ p ∈ xs, Lay p n) → ∀ p ∈ PV.str w :: xs, Lay p n := fun hw h p m => by
    rcases List.mem_cons.mp m with rfl | m
    · exact .str hw _
    · exact h p m
  have no : ∀ {n : Nat}, ∀ p ∈ ([] : List PV), Lay p n := fun p m => by cases m
  have cn : ∀ {x : PV} {xs : List PV} {n : Nat}, Lay x n → (∀ p ∈ xs, Lay p n) → ∀ p ∈ x :: xs, Lay p n := fun hw h p m => by
    rcases List.mem_cons.mp m with rfl | m
    · exact hw
    · exact h p m
  intro r
  induction r with
  | all => exact .tup (st (by kernel_rfl) no)
  | none => exact .tup (st (by kernel_rfl) no)
  | high a => exact .tup (st (by kernel_rfl) (cn (.int _ _) no))
  | wide a => exact .tup (st (by kernel_rfl) (cn (.int _ _) no))
  | border a => exact .tup (st (by kernel_rfl) (cn (.int _ _) no))
  | rows a k => exact .tup (st (by kernel_rfl) (cn (.int _ _) (cn (.int _ _) no)))
  | rowsUp a k => exact .tup (st (by kernel_rfl) (cn (.int _ _) (cn (.int _ _) no)))
  | cols a k => exact .tup (st (by kernel_rfl) (cn (.int _ _) (cn (.int _ _) no)))
  | colsBack a k => exact .tup (st (by kernel_rfl) (cn (.int _ _) (cn (.int _ _) no)))
  | and x y ihx ihy => exact .tup (st (by kernel_rfl) (cn (ihx.mono (Nat.le_max_left ..)) (cn (ihy.mono (Nat.le_max_right ..)) no)))
  | or x y ihx ihy => exact .tup (st (by kernel_rfl) (cn (ihx.mono (Nat.le_max_left ..)) (cn (ihy.mono (Nat.le_max_right ..)) no)))
  | not x ih => exact .tup (st (by kernel_rfl) (cn ih no))
  | mirror x ih => exact .tup (st (by kernel_rfl) (cn ih no))
  | flip x ih => exact .tup (st (by kernel_rfl) (cn ih no))
  | turn x ih => exact .tup (st (by kernel_rfl) (cn ih no))
  | move p q x ih => exact .tup (st (by kernel_rfl) (cn (.int _ _) (cn (.int _ _) (cn ih no))))
theorem pv_isN (r : Rg) : isN r.pv = false := by cases r <;> rfl
theorem numbers_of (e : Nat) {ns : List Int} (hs : ∀ a ∈ ns, small a) (hl : ns.length ≤ 1000) : (env (e + 2)).p_numbers_of [.lst (ns.map fun a => .str (sl (nm a)))] = .ok (.lst (ns.map .int)) := by
  have h1 := fun a m => number_of e (hs a m)
  show runB 3 (d_numbers_of (env (e + 1))) _ = _
  rw [runB_fin]
  generalize env (e + 1) = E at *
  have hc := compL_map (g := .one 2) (body := c_numbers_of_0 E) (ρ := [some (.val (.lst (ns.map fun a => .str (sl (nm a))))), none, none]) (f := fun a => .str (sl (nm a))) (y := .int) ns (fun a m => ⟨_, rfl, _, by
    have := h1 a m
    simp [this]
    rfl⟩)
  have hl2 : ns.length ≤ LIM := by unfold LIM; omega
  simp [d_numbers_of, st0, valsOf, wipeR, hc, noNone, hl2]
theorem plain_in {w : Str} (hw : WOk w) (hp : pInT tb_PLAIN (.str w) = some (.bl true)) {ns : List Int} (hs : ∀ a ∈ ns, small a) (hl : ns.length ≤ 2) (names : PV) (e : Nat) :
    (env (e + 3)).p_plain_in [.str (sl (txw w ns)), names] = .ok (.tup (.str w :: ns.map .int)) := by
  have h1 := numbers_of e hs (by omega)
  show runB 4 (d_plain_in (env (e + 2))) _ = _
  rw [runB_fin]
  generalize env (e + 2) = E at *
  have hlen := txw_len hw hs
  have hsp := pSplit_c 32 (txw w ns) (by unfold LIM; omega)
  unfold txw at hsp
  rw [spl_nums hs (lt w) (fun m => (hw.no 32 m).1 rfl)] at hsp
  simp only [List.map_cons, sl_lt, List.map_map] at hsp
  have hsl : pSl (.lst (.str w :: ns.map ((fun p => .str (sl p)) ∘ nm))) (some 1) none = some (.lst (ns.map fun a => .str (sl (nm a)))) := by
    have := cut_from [PV.str w] (ns.map ((fun p => PV.str (sl p)) ∘ nm))
    show some (PV.lst (cutL (PV.str w :: ns.map ((fun p => PV.str (sl p)) ∘ nm)) (some 1) none)) = _
    exact congrArg (fun l => some (PV.lst l)) this
  have ha : pAdd (.tup [.str w]) (.tup (ns.map .int)) = some (.tup (.str w :: ns.map .int)) := by
    show (if _ then some (PV.tup ([PV.str w] ++ ns.map PV.int)) else none) = _
    rw [if_pos (by simp [LIM]; omega)]
    rfl
  simp [-pSplit_s, -pAdd_t, d_plain_in, st0, l_blank, txw, hsp, hp, hsl, h1, ha]
/-- a text is read to a region, with m calls -/
def RI (m : Nat) (names : PV) (t : List Nat) (r : Rg) : Prop := ∀ e, (env (e + m)).p_region_in [.str (sl t), names] = .ok r.pv
theorem RI.mono {m n : Nat} {names : PV} {t : List Nat} {r : Rg} (h : RI m names t r) (hm : m ≤ n) : RI n names t r := fun e => by
  have := h (e + (n - m))
  rw [show e + (n - m) + m = e + n by omega] at this
  exact this
theorem pv_tup (r : Rg) : ∃ xs, r.pv = .tup xs := by cases r <;> exact ⟨_, rfl⟩
/-- a text without brackets -/
theorem ri_flat {m : Nat} {names : PV} {t : List Nat} {r : Rg} (h40 : 40 ∉ t) (hl : t.length ≤ 100000) (h : ∀ e, (env (e + m)).p_plain_in [.str (sl t), names] = .ok r.pv) : RI (m + 1) names t r := fun e => by
  have h1 := h e
  show runB 6 (d_region_in (env (e + m))) _ = _
  rw [runB_fin]
  generalize env (e + m) = E at *
  have hsp := pSplit_c 40 t (by unfold LIM; omega)
  rw [spl_no 40 t h40] at hsp
  have hi : inStr (sl [40]) (sl t) = false := by rw [in_c, decide_eq_false h40]
  simp [-pSplit_s, d_region_in, st0, l_opn, hsp, hi, h1]
structure InOk (w : Str) (k : Int) : Prop where
  ok : WOk w
  mv : pEq (.str w) (.str "move") = some (.bl false)
  no : pNotInT tb_INNER (.str w) = some (.bl false)
  get : tb_INNER.lookup w = some (.int k)
theorem br_parts {w : Str} (hw : WOk w) {l : List Nat} (asc : Asc l) (hl : l.length ≤ 10000) : 
    pSplit (.str (sl (lt w ++ 40 :: (l ++ [41])))) (.str (sl [40])) = some (.lst (.str w :: ((spl 40 (l ++ [41])).map fun p => .str (sl p)))) ∧ inStr (sl [40]) (sl (lt w ++ 40 :: (l ++ [41]))) = true ∧
    pIx (.str (sl (lt w ++ 40 :: (l ++ [41])))) (.int (-1)) = some (.str (sl [41])) ∧ pSl (.str (sl (lt w ++ 40 :: (l ++ [41])))) (some ((w.length : Int) + 1)) (some (-1)) = some (.str (sl l)) := by
  have hwl := hw.len
  have hwl2 := lt_len w
  refine ⟨?_, ?_, ?_, ?_⟩
  · have hsp := pSplit_c 40 (lt w ++ 40 :: (l ++ [41])) (by unfold LIM; simp; omega)
    rw [spl_app 40 (lt w) _ (fun m => (hw.no 40 m).2.1 rfl)] at hsp
    simpa using hsp
  · rw [in_c]
    simp
  · have := pIx_last (lt w ++ 40 :: l) 41 (by unfold LIM; simp; omega)
    simpa using this
  · rw [pSl_sl _ _ _ (by unfold LIM; simp; omega)]
    have := cut_mid (lt w ++ [40]) l 41
    have e1 : (lt w ++ [40]) ++ (l ++ [41]) = lt w ++ 40 :: (l ++ [41]) := by simp
    have e2 : (((lt w ++ [40]).length : Nat) : Int) = (w.length : Int) + 1 := by rw [hwl2]; simp
    rw [e1, e2] at this
    rw [this]
theorem par_eq : pEq (.str (sl [41])) (.str (sl [41])) = some (.bl true) := by kernel_rfl
theorem ri_one {m : Nat} {names : PV} {w : Str} {t : List Nat} {x r : Rg} {B : Int} (hw : InOk w 1) (h : RI m names t x) (hk : Wk B 0 t 0) (asc : Asc t) (hl : t.length ≤ 10000) (hd : x.dep ≤ 60) (hr : r.pv = .tup [.str w, x.pv]) (hm : 1 ≤ m) : RI (m + 1) names (lt w ++ 40 :: (t ++ [41])) r := fun e => by
  have h1 := h e
  have h2 := cut_one hk asc (by omega) (e + (m - 1))
  rw [show e + (m - 1) + 1 = e + m by omega] at h2
  show runB 6 (d_region_in (env (e + m))) _ = _
  rw [runB_fin]
  generalize env (e + m) = E at *
  obtain ⟨p1, p2, p3, p4⟩ := br_parts hw.ok asc hl
  have wl : w.length ≤ 16000000 := by have := hw.ok.len; rw [lt_len]; omega
  have c : compL (.one 5) tyesD (c_region_in_0 E) [some (.val (.str (sl (lt w ++ 40 :: (t ++ [41]))))), some (.val names), some (.val (.str w)), some (.val (.lst [.str (sl t)])), none, none] [.str (sl t)] = some [x.pv] :=
    compL_map (f := fun _ => .str (sl t)) (y := fun _ => x.pv) [()] (fun a m => ⟨_, rfl, _, by simp [h1]; rfl⟩)
  have nn : pIn .non (.lst [x.pv]) = some (.bl false) := no_none (by simpa using (rg_lay x).mono hd) (by simpa using pv_isN x)
  have g : pGetT tb_INNER (.str w) = some (.int 1) := hw.get
  simp [-pSplit_s, d_region_in, st0, l_opn, p1, p2, p3, l_par, par_eq, fLen, wl, p4, h2, hw.mv, hw.no, dGetT, g, valsOf, wipeR, c, nn, hr, LIM]
theorem ri_two {m : Nat} {names : PV} {w : Str} {t u : List Nat} {x y r : Rg} {B : Int} (hw : InOk w 2) (h : RI m names t x) (g : RI m names u y) (hk : Wk B 0 t 0) (hk2 : Wk B 0 u 0) (asc : Asc t) (asc2 : Asc u) (hl : t.length + u.length ≤ 9990) (hd : x.dep ≤ 60) (hd2 : y.dep ≤ 60) (hr : r.pv = .tup [.str w, x.pv, y.pv]) (hm : 1 ≤ m) :
    RI (m + 1) names (lt w ++ 40 :: (t ++ 44 :: 32 :: u ++ [41])) r := fun e => by
  have h1 := h e
  have g1 := g e
  have h2 := cut_two hk hk2 asc asc2 (by omega) (e + (m - 1))
  rw [show e + (m - 1) + 1 = e + m by omega] at h2
  show runB 6 (d_region_in (env (e + m))) _ = _
  rw [runB_fin]
  generalize env (e + m) = E at *
  obtain ⟨p1, p2, p3, p4⟩ := br_parts hw.ok (l := t ++ 44 :: 32 :: u) (asc.app (.cons (by decide) (.cons (by decide) asc2))) (by simp; omega)
  generalize hL : lt w ++ 40 :: (t ++ 44 :: 32 :: u ++ [41]) = L at *
  generalize hM : t ++ 44 :: 32 :: u = M at *
  have wl : w.length ≤ 16000000 := by have := hw.ok.len; rw [lt_len]; omega
  have c : compL (.one 5) tyesD (c_region_in_0 E) [some (.val (.str (sl L))), some (.val names), some (.val (.str w)), some (.val (.lst [.str (sl t), .str (sl u)])), none, none] [.str (sl t), .str (sl u)] = some [x.pv, y.pv] := by
    refine compL_map (f := fun b => if b = true then .str (sl t) else .str (sl u)) (y := fun b => if b = true then x.pv else y.pv) [true, false] (fun a m => ⟨_, rfl, [some (.val (.str (sl L))), some (.val names), some (.val (.str w)), some (.val (.lst [.str (sl t), .str (sl u)])), none, some (.val (if a = true then .str (sl t) else .str (sl u)))], ?_⟩)
    cases a <;> simp [h1, g1]
  have nn : pIn .non (.lst [x.pv, y.pv]) = some (.bl false) := no_none (by simpa using ⟨(rg_lay x).mono hd, (rg_lay y).mono hd2⟩) (by simpa using ⟨pv_isN x, pv_isN y⟩)
  have g : pGetT tb_INNER (.str w) = some (.int 2) := hw.get
  simp [-pSplit_s, d_region_in, st0, l_opn, p1, p2, p3, l_par, par_eq, fLen, wl, p4, h2, hw.mv, hw.no, dGetT, g, valsOf, wipeR, c, nn, hr, LIM]
theorem moved_in {m : Nat} {names : PV} {t : List Nat} {x : Rg} {p q : Int} (hp : small p) (hq : small q) (h : RI m names t x) (hm : 2 ≤ m) (e : Nat) : (env (e + m + 1)).p_moved_in [.lst [.str (sl (nm p ++ 32 :: nm q)), .str (sl t)], names] = .ok (.tup [.str "move", .int p, .int q, x.pv]) := by
  have h1 := h e
  have h2 := numbers_of (e + (m - 2)) (sm2 hp hq) (by simp)
  rw [show e + (m - 2) + 2 = e + m by omega] at h2
  show runB 4 (d_moved_in (env (e + m))) _ = _
  rw [runB_fin]
  generalize env (e + m) = E at *
  have a := nm_ok hp
  have b := nm_ok hq
  have := a.len
  have := b.len
  have hsp := pSplit_c 32 (nm p ++ 32 :: nm q) (by unfold LIM; simp; omega)
  rw [spl_app 32 _ _ (fun m => (a.no 32 m).1 rfl), spl_no 32 _ (fun m => (b.no 32 m).1 rfl)] at hsp
  have h2 : E.p_numbers_of [.lst [.str (sl (nm p)), .str (sl (nm q))]] = .ok (.lst [.int p, .int q]) := h2
  simp [-pSplit_s, d_moved_in, st0, l_blank, hsp, h2, h1, pv_isN x]
theorem ri_moveW {m : Nat} {names : PV} {w : Str} {t : List Nat} {x : Rg} {B p q : Int} (hw : WOk w) (mv : pEq (.str w) (.str "move") = some (.bl true)) (hp : small p) (hq : small q) (h : RI m names t x) (hk : Wk B 0 t 0) (asc : Asc t) (hB : 0 ≤ B) (hl : t.length ≤ 9900) (hm : 2 ≤ m) :
    RI (m + 2) names (lt w ++ 40 :: (((nm p ++ 32 :: nm q) ++ 44 :: 32 :: t) ++ [41])) (.move p q x) := fun e => by
  have h1 := moved_in hp hq h hm e
  have n := num_tx hp hq
  have n2 := num_no hp hq
  have nl := n.len
  have h2 := cut_two (Wk.plain (B := B) (d := 0) (l := nm p ++ 32 :: nm q) (by omega) hB (fun c m => ⟨(n2 c m).1, (n2 c m).2.1⟩) (.inr fun c m => (n2 c m).2.2)) hk n.asc asc (by omega) (e + m)
  show runB 6 (d_region_in (env (e + m + 1))) _ = _
  rw [runB_fin]
  generalize env (e + m + 1) = E at *
  generalize nm p ++ 32 :: nm q = pq at *
  obtain ⟨p1, p2, p3, p4⟩ := br_parts hw (l := pq ++ 44 :: 32 :: t) (n.asc.app (.cons (by decide) (.cons (by decide) asc))) (by simp; omega)
  generalize hL : lt w ++ 40 :: (pq ++ 44 :: 32 :: t ++ [41]) = L at *
  generalize hM : pq ++ 44 :: 32 :: t = M at *
  have wl : w.length ≤ LIM := by have := hw.len; rw [lt_len]; unfold LIM; omega
  simp [-pSplit_s, d_region_in, st0, l_opn, p1, p2, p3, l_par, par_eq, fLen, wl, p4, h2, mv, h1, Rg.pv]
theorem ri_move {m : Nat} {names : PV} {t : List Nat} {x : Rg} {B p q : Int} (hp : small p) (hq : small q) (h : RI m names t x) (hk : Wk B 0 t 0) (asc : Asc t) (hB : 0 ≤ B) (hl : t.length ≤ 9900) (hm : 2 ≤ m) :
    RI (m + 2) names (lt "move" ++ 40 :: (((nm p ++ 32 :: nm q) ++ 44 :: 32 :: t) ++ [41])) (.move p q x) := ri_moveW W_move (by kernel_rfl) hp hq h hk asc hB hl hm
end Pl

set_option maxHeartbeats 4000000
/-! S9e: the texts, both accounts. -/
namespace Pl
open PySem PySem.Spec PyProof.Rows L2
theorem small_log {a : Int} (h : small a) : a.natAbs.log2 < 1920 := by
  have : a.natAbs.log2 ≤ a.natAbs := Nat.log2_le_self _
  have := h.1
  have := h.2
  omega
theorem str_nm {a : Int} (h : small a) : fStr [.int a] = some (.str (sl (nm a))) := by
  show (if a.natAbs.log2 < 1920 then some (PV.str (toString a)) else none) = _
  rw [if_pos (small_log h)]
  unfold nm
  rw [sl_lt]
theorem fmt_nm {a : Int} (h : small a) : pFmt (.int a) = some (.str (sl (nm a))) := by
  show (if a.natAbs.log2 < 1920 then some (PV.str (toString a)) else none) = _
  rw [if_pos (small_log h)]
  unfold nm
  rw [sl_lt]
theorem join_txw {w : Str} (ns : List Int) : Txt.join " " (w :: ns.map fun a => sl (nm a)) = sl (txw w ns) := by
  apply str_ext
  rw [lt_join, lt_sl]
  have k : ∀ (l : List Nat) (ns : List Int), List.intercalate (lt " ") (l :: ns.map nm) = l ++ (ns.map fun a => 32 :: nm a).flatten := by
    intro l ns
    induction ns generalizing l with
    | nil => simp [List.intercalate]
    | cons a ns ih =>
      have := ih (nm a)
      simp only [List.map_cons, List.flatten_cons]
      rw [show List.intercalate (lt " ") (l :: nm a :: ns.map nm) = l ++ (lt " " ++ List.intercalate (lt " ") (nm a :: ns.map nm)) by simp [List.intercalate]]
      rw [this]
      rfl
  simpa [Function.comp_def, txw] using k (lt w) ns
theorem pjoin_txw {w : Str} (hw : WOk w) {ns : List Int} (hs : ∀ a ∈ ns, small a) (hl : ns.length ≤ 2) : pJoin (.str " ") (.lst (.str w :: ns.map fun a => .str (sl (nm a)))) = some (.str (sl (txw w ns))) := by
  have h := pJoin_l " " (w :: ns.map fun a => sl (nm a)) (by
    have h1 := hw.len
    have h2 : ∀ ns : List Int, (∀ a ∈ ns, small a) → ((ns.map fun a => sl (nm a)).map (·.length)).sum ≤ 2 * ns.length := by
      intro ns
      induction ns with
      | nil => intro _; simp
      | cons a ns ih =>
        intro h
        have := ih fun b m => h b (List.mem_cons_of_mem _ m)
        have := (nm_ok (h a List.mem_cons_self)).len
        simp at *
        omega
    have h3 := h2 ns hs
    have h4 : ((" " : Str)).length = 1 := by kernel_rfl
    rw [h4]
    have h5 := lt_len w
    simp at *
    unfold LIM
    omega)
  rw [join_txw] at h
  simpa [Function.comp_def] using h
theorem l_text_leaf {w : Str} (hw : WOk w) (mv : pEq (.str w) (.str "move") = some (.bl false)) {ns : List Int} (hs : ∀ a ∈ ns, small a) (hl : ns.length ≤ 2) (e : Nat) : (env (e + 1)).p_l_text [.tup (.str w :: ns.map .int)] = .ok (.str (sl (txw w ns))) := by
  show runB 7 (d_l_text (env e)) _ = _
  rw [runB_fin]
  generalize env e = E at *
  have hsl : pSl (.tup (.str w :: ns.map .int)) (some 1) none = some (.tup (ns.map .int)) := congrArg (fun l => some (PV.tup l)) (cut_from [PV.str w] (ns.map .int))
  have c0 : compL (.one 5) (t_l_text_1 E) (c_l_text_0 E) [some (.val (.tup (.str w :: ns.map .int))), none, none, none, none, none, none] (ns.map .int) = some [] := compL_none ns fun a m => ⟨_, rfl, _, rfl⟩
  have c1 : compL (.one 6) tyesD (c_l_text_3 E) [some (.val (.tup (.str w :: ns.map .int))), none, some (.val (.lst [])), some (.val (.lst [])), none, none, none] (ns.map .int) = some (ns.map fun a => .str (sl (nm a))) :=
    compL_map ns fun a m => ⟨_, rfl, [some (.val (.tup (.str w :: ns.map .int))), none, some (.val (.lst [])), some (.val (.lst [])), none, none, some (.val (.int a))], by simp [str_nm (hs a m)]⟩
  have c2 : ∀ ρ, compL (.one 5) tyesD (c_l_text_2 E) ρ [] = some [] := fun _ => rfl
  have ll : ns.length ≤ LIM := by unfold LIM; omega
  have l1 : 1 + ns.length ≤ LIM := by unfold LIM; omega
  have j := pjoin_txw hw hs hl
  simp [d_l_text, st0, mv, hsl, valsOf, wipeR, c0, c1, c2, ll, l1, j]
theorem text_leaf {w : Str} (hw : WOk w) (hp : pInT tb_PLAIN (.str w) = some (.bl true)) {ns : List Int} (hs : ∀ a ∈ ns, small a) (hl : ns.length ≤ 2) (e : Nat) : (env (e + 1)).p_text_of [.tup (.str w :: ns.map .int)] = .ok (.str (sl (txw w ns))) := by
  show runB 4 (d_text_of (env e)) _ = _
  rw [runB_fin]
  generalize env e = E at *
  have c1 : compL (.one 3) tyesD (c_text_of_0 E) [some (.val (.tup (.str w :: ns.map .int))), none, none, none] (.str w :: ns.map .int) = some (.str w :: ns.map fun a => .str (sl (nm a))) := by
    have h := compL_map (g := .one 3) (body := c_text_of_0 E) (ρ := [some (.val (.tup (.str w :: ns.map .int))), none, none, none]) (f := PV.int) (y := fun a => .str (sl (nm a))) ns fun a m => ⟨_, rfl, [some (.val (.tup (.str w :: ns.map .int))), none, none, some (.val (.int a))], by simp [str_nm (hs a m)]⟩
    unfold compL
    simp only [Tg.set, tyesD]
    rw [h]
    have : c_text_of_0 E ([some (.val (.tup (.str w :: ns.map .int))), none, none, none].set 3 (some (.val (.str w)))) = .ok (.str w) [some (.val (.tup (.str w :: ns.map .int))), none, none, some (.val (.str w))] := rfl
    rw [this]
    rfl
  have ll : 1 + ns.length ≤ LIM := by unfold LIM; omega
  have ll2 : ns.length + 1 ≤ LIM := by unfold LIM; omega
  have j := pjoin_txw hw hs hl
  simp [d_text_of, st0, hp, valsOf, wipeR, c1, ll, ll2, j]
/-- both accounts of a text, with m calls -/
def TI (m : Nat) (t : List Nat) (r : Rg) : Prop := ∀ e, (env (e + m)).p_l_text [r.pv] = .ok (.str (sl t)) ∧ (env (e + m)).p_text_of [r.pv] = .ok (.str (sl t))
theorem TI.mono {m n : Nat} {t : List Nat} {r : Rg} (h : TI m t r) (hm : m ≤ n) : TI n t r := fun e => by
  have := h (e + (n - m))
  rw [show e + (n - m) + m = e + n by omega] at this
  exact this
theorem ti_leaf {w : Str} (hw : WOk w) (mv : pEq (.str w) (.str "move") = some (.bl false)) (hp : pInT tb_PLAIN (.str w) = some (.bl true)) {ns : List Int} (hs : ∀ a ∈ ns, small a) (hl : ns.length ≤ 2) {r : Rg} (hr : r.pv = .tup (.str w :: ns.map .int)) {m : Nat} (hm : 1 ≤ m) : TI m (txw w ns) r := by
  refine TI.mono (m := 1) (fun e => ?_) hm
  rw [hr]
  exact ⟨l_text_leaf hw mv hs hl e, text_leaf hw hp hs hl e⟩
theorem isi_pv (r : Rg) : pIsi "tuple" r.pv = some (.bl true) := by cases r <;> rfl
structure TwOk (w : Str) (k : Int) : Prop extends InOk w k where
  np : pInT tb_PLAIN (.str w) = some (.bl false)
  inn : pInT tb_INNER (.str w) = some (.bl true)
theorem str_empty : Str.empty = sl [] := rfl
theorem ti_in {m : Nat} {w : Str} {zs : List (List Nat × Rg)} {u : List Nat} {r : Rg} {k : Int} (hw : TwOk w k) (h : ∀ z ∈ zs, TI m z.1 z.2) (h0 : 0 < zs.length) (hz : zs.length ≤ 10) (hj : Txt.join ", " (zs.map fun z => sl z.1) = sl u) (hz1 : ∀ z ∈ zs, z.1.length ≤ 5000) (hl : u.length ≤ 100000) (hr : r.pv = .tup (.str w :: zs.map fun z => z.2.pv)) (hm : 1 ≤ m) : TI (m + 1) (lt w ++ 40 :: (u ++ [41])) r := fun e => by
  have h1 := fun z hz => h z hz e
  generalize hP : (zs.map fun z => z.2.pv) = ps at hr
  have h2 : (env (e + m)).p_inner_regions [r.pv] = .ok (.lst ps) := by
    obtain ⟨m, rfl⟩ : ∃ k, m = k + 1 := ⟨m - 1, by omega⟩
    show runB 1 (d_inner_regions (env (e + m))) _ = _
    rw [runB_fin, hr]
    have : pSl (.tup (.str w :: ps)) (some 1) none = some (.tup ps) := congrArg (fun l => some (PV.tup l)) (cut_from [PV.str w] ps)
    simp [d_inner_regions, st0, hw.mv, hw.inn, this]
  rw [hr] at h2 ⊢
  have hwl := hw.ok.len
  have e1 : ((w ++ ("(" : Str)) ++ sl u) ++ (")" : Str) = sl (lt w ++ 40 :: (u ++ [41])) := by
    apply str_ext
    rw [l_opn, l_par]
    simp [lt_app]
  have e2 : (((Str.empty ++ w) ++ ("(" : Str)) ++ sl u) ++ (")" : Str) = sl (lt w ++ 40 :: (u ++ [41])) := by
    apply str_ext
    rw [l_opn, l_par, str_empty]
    simp [lt_app]
  have hsum : ∀ zs : List (List Nat × Rg), (∀ z ∈ zs, z.1.length ≤ 5000) → ((zs.map fun z => sl z.1).map (·.length)).sum ≤ 5000 * zs.length := by
    intro zs
    induction zs with
    | nil => intro _; simp
    | cons a zs ih =>
      intro h
      have := ih fun b m => h b (List.mem_cons_of_mem _ m)
      have := h a List.mem_cons_self
      simp at *
      omega
  have j := pJoin_l ", " (zs.map fun z => sl z.1) (by
    rw [show ((", " : Str)).length = 2 from by kernel_rfl]
    have := hsum zs hz1
    simp at *
    unfold LIM
    omega)
  rw [hj, List.map_map] at j
  have wl : w.length ≤ 9 := by rw [lt_len]; exact hwl
  have n1 : ((")" : Str)).length = 1 := by kernel_rfl
  have n2 : (("(" : Str)).length = 1 := by kernel_rfl
  have n3 : w.length + 1 ≤ 16000000 := by omega
  have n4 : w.length + 1 + u.length ≤ 16000000 := by omega
  have n5 : w.length + 1 + u.length + 1 ≤ 16000000 := by omega
  have n6 : u.length ≤ 16000000 := by omega
  have n7 : w.length ≤ 16000000 := by omega
  have n0 : Str.empty.length = 0 := rfl
  have n8 : (lt w).length + (u.length + 1 + 1) ≤ 16000000 := by omega
  have lz : zs.length ≤ 16000000 := by omega
  have lp : ps.length ≤ 16000000 := by rw [← hP]; simpa using lz
  have hsl : pSl (.tup (.str w :: ps)) (some 1) none = some (.tup ps) := congrArg (fun l => some (PV.tup l)) (cut_from [PV.str w] ps)
  refine ⟨?_, ?_⟩
  · show runB 7 (d_l_text (env (e + m))) _ = _
    rw [runB_fin]
    generalize env (e + m) = E at *
    have c0 : compL (.one 5) (t_l_text_1 E) (c_l_text_0 E) [some (.val (.tup (.str w :: ps))), none, none, none, none, none, none] ps = some ps := by
      have := compL_mapT (g := .one 5) (t := t_l_text_1 E) (body := c_l_text_0 E) (ρ := [some (.val (.tup (.str w :: ps))), none, none, none, none, none, none]) (f := fun z : List Nat × Rg => z.2.pv) (y := fun z : List Nat × Rg => z.2.pv) zs fun z _ => ⟨_, rfl, [some (.val (.tup (.str w :: ps))), none, none, none, none, some (.val z.2.pv), none], by simp [isi_pv z.2], _, rfl⟩
      rw [hP] at this
      exact this
    have c2 : compL (.one 5) tyesD (c_l_text_2 E) [some (.val (.tup (.str w :: ps))), none, some (.val (.lst ps)), none, none, none, none] ps = some (zs.map (PV.str ∘ fun z => sl z.1)) := by
      have := compL_map (g := .one 5) (body := c_l_text_2 E) (ρ := [some (.val (.tup (.str w :: ps))), none, some (.val (.lst ps)), none, none, none, none]) (f := fun z : List Nat × Rg => z.2.pv) (y := PV.str ∘ fun z => sl z.1) zs fun z m => ⟨_, rfl, [some (.val (.tup (.str w :: ps))), none, some (.val (.lst ps)), none, none, some (.val z.2.pv), none], by simp [(h1 z m).1]⟩
      rw [hP] at this
      exact this
    simp [-List.map_map, d_l_text, st0, hw.mv, hsl, valsOf, wipeR, c0, c2, lp, lz, h0, j, LIM, n1, n2, n3, n4, n5, str_len_app, e1]
  · show runB 4 (d_text_of (env (e + m))) _ = _
    rw [runB_fin]
    generalize env (e + m) = E at *
    have c2 : compL (.one 2) tyesD (c_text_of_1 E) [some (.val (.tup (.str w :: ps))), none, none, none] ps = some (zs.map (PV.str ∘ fun z => sl z.1)) := by
      have := compL_map (g := .one 2) (body := c_text_of_1 E) (ρ := [some (.val (.tup (.str w :: ps))), none, none, none]) (f := fun z : List Nat × Rg => z.2.pv) (y := PV.str ∘ fun z => sl z.1) zs fun z m => ⟨_, rfl, [some (.val (.tup (.str w :: ps))), none, some (.val z.2.pv), none], by simp [(h1 z m).2]⟩
      rw [hP] at this
      exact this
    have f1 : pFmt (.str w) = some (.str w) := if_pos n7
    have f2 : pFmt (.str (sl u)) = some (.str (sl u)) := if_pos (by rw [sl_len]; exact n6)
    simp [-List.map_map, d_text_of, st0, hw.mv, hw.np, h2, hsl, valsOf, wipeR, c2, lp, lz, j, LIM, n0, n1, n2, n3, n4, n5, n7, n8, f1, f2, str_len_app, e2]
theorem ti_move {m : Nat} {t : List Nat} {x : Rg} {p q : Int} (hp : small p) (hq : small q) (h : TI m t x) (hl : t.length ≤ 10000) (hm : 1 ≤ m) : TI (m + 1) (lt "move" ++ 40 :: (((nm p ++ 32 :: nm q) ++ 44 :: 32 :: t) ++ [41])) (.move p q x) := fun e => by
  have h1 := h e
  have a := nm_ok hp
  have b := nm_ok hq
  have al := a.len
  have bl := b.len
  have mv : pEq (.str "move") (.str "move") = some (.bl true) := by kernel_rfl
  have np : pInT tb_PLAIN (.str "move") = some (.bl false) := by kernel_rfl
  generalize hP : x.pv = ps at *
  have hr : (Rg.move p q x).pv = .tup [.str "move", .int p, .int q, ps] := by rw [← hP]; rfl
  have h2 : (env (e + m)).p_inner_regions [.tup [.str "move", .int p, .int q, ps]] = .ok (.lst [ps]) := by
    obtain ⟨m, rfl⟩ : ∃ k, m = k + 1 := ⟨m - 1, by omega⟩
    show runB 1 (d_inner_regions (env (e + m))) _ = _
    rw [runB_fin]
    simp [d_inner_regions, st0, mv]
  rw [hr]
  have l_mv : ("move(" : Str) = sl (lt "move" ++ [40]) := by kernel_rfl
  have l5 : (lt "move").length = 4 := by kernel_rfl
  have j := pJoin_l ", " [sl t] (by rw [show ((", " : Str)).length = 2 from by kernel_rfl]; simp; unfold LIM; omega)
  rw [join1] at j
  have n9 : ∀ k : Nat, k ≤ 11000 → k ≤ LIM := fun k h => by unfold LIM; omega
  have f2 : pFmt (.str (sl t)) = some (.str (sl t)) := if_pos (by rw [sl_len]; exact n9 _ (by omega))
  refine ⟨?_, ?_⟩
  · show runB 7 (d_l_text (env (e + m))) _ = _
    rw [runB_fin]
    generalize env (e + m) = E at *
    generalize hW : lt "move" = W at *
    simp (disch := (simp only [List.length_append, List.length_cons, List.length_nil]; omega)) [-pAdd_s, addS, d_l_text, st0, mv, str_nm hp, str_nm hq, l_mv, l_blank, l_comma, l_par, h1.1]
  · show runB 4 (d_text_of (env (e + m))) _ = _
    rw [runB_fin]
    generalize env (e + m) = E at *
    have c2 : compL (.one 2) tyesD (c_text_of_1 E) [some (.val (.tup [.str "move", .int p, .int q, ps])), none, none, none] [ps] = some [.str (sl t)] :=
      compL_map (g := .one 2) (body := c_text_of_1 E) (ρ := [some (.val (.tup [.str "move", .int p, .int q, ps])), none, none, none]) (f := fun _ => ps) (y := fun _ => .str (sl t)) [()] fun z m => ⟨_, rfl, [some (.val (.tup [.str "move", .int p, .int q, ps])), none, some (.val ps), none], by simp [h1.2]⟩
    generalize hW : lt "move" = W at *
    have k1 : 1 ≤ LIM := n9 _ (by omega)
    rw [l_comma] at j
    simp at j
    simp (disch := (simp only [List.length_append, List.length_cons, List.length_nil]; omega)) [-js3_ok, js3S, d_text_of, st0, mv, np, h2, fmt_nm hp, fmt_nm hq, l_mv, l_blank, l_comma, l_par, str_empty, valsOf, wipeR, c2, k1, j, f2]
end Pl

set_option maxHeartbeats 4000000
/-! S9f: regions there and back; what is alike. -/
namespace Pl
open PySem PySem.Spec PyProof.Rows L2
theorem T_and : TwOk "and" 2 := ⟨⟨W_and, by kernel_rfl, by kernel_rfl, by kernel_rfl⟩, by kernel_rfl, by kernel_rfl⟩
theorem T_or : TwOk "or" 2 := ⟨⟨W_or, by kernel_rfl, by kernel_rfl, by kernel_rfl⟩, by kernel_rfl, by kernel_rfl⟩
theorem T_not : TwOk "not" 1 := ⟨⟨W_not, by kernel_rfl, by kernel_rfl, by kernel_rfl⟩, by kernel_rfl, by kernel_rfl⟩
theorem T_mirror : TwOk "mirror" 1 := ⟨⟨W_mirror, by kernel_rfl, by kernel_rfl, by kernel_rfl⟩, by kernel_rfl, by kernel_rfl⟩
theorem T_flip : TwOk "flip" 1 := ⟨⟨W_flip, by kernel_rfl, by kernel_rfl, by kernel_rfl⟩, by kernel_rfl, by kernel_rfl⟩
theorem T_turn : TwOk "turn" 1 := ⟨⟨W_turn, by kernel_rfl, by kernel_rfl, by kernel_rfl⟩, by kernel_rfl, by kernel_rfl⟩
/-- a text is right: both accounts tell it, it is read to the region -/
structure Rt (m : Nat) (names : PV) (t : List Nat) (r : Rg) : Prop where
  ri : RI m names t r
  wk : Wk 8 0 t 0
  tx : TxOk t 9000
  ok : r.Ok
  dep : r.dep ≤ 8
theorem rt_leaf {w : Str} (hw : WOk w) (hp : pInT tb_PLAIN (.str w) = some (.bl true)) {ns : List Int} (hs : ∀ a ∈ ns, small a) (hl : ns.length ≤ 2) {r : Rg} (hr : r.pv = .tup (.str w :: ns.map .int)) (names : PV) {m : Nat} (hm : 4 ≤ m) : RI m names (txw w ns) r := by
  refine RI.mono (m := 4) (ri_flat (m := 3) (fun c => (txw_no hw hs 40 c).1.1 rfl) ?_ fun e => ?_) hm
  · have := txw_len hw hs
    omega
  · rw [hr]
    exact plain_in hw hp hs hl names e
theorem tx_len {r : Rg} (ok : r.Ok) (h : r.dep ≤ 6) : (tx r).length ≤ 2560 := by
  have h1 := (tx_ok r ok).len
  have : 2 ^ r.dep ≤ 2 ^ 6 := Nat.pow_le_pow_right (by omega) h
  omega
theorem ri_tx (names : PV) : ∀ r : Rg, r.Ok → r.dep ≤ 6 → RI (2 * r.dep + 2) names (tx r) r
  | .all, _, _ => rt_leaf W_all (by kernel_rfl) (by simp) (by simp) rfl names (by simp [Rg.dep])
  | .none, _, _ => rt_leaf W_none (by kernel_rfl) (by simp) (by simp) rfl names (by simp [Rg.dep])
  | .high a, h, _ => rt_leaf W_high (by kernel_rfl) (sm1 (small_of h)) (by simp) rfl names (by simp [Rg.dep])
  | .wide a, h, _ => rt_leaf W_wide (by kernel_rfl) (sm1 (small_of h)) (by simp) rfl names (by simp [Rg.dep])
  | .border a, h, _ => rt_leaf W_border (by kernel_rfl) (sm1 (small_of h)) (by simp) rfl names (by simp [Rg.dep])
  | .rows a k, h, _ => rt_leaf W_rows (by kernel_rfl) (sm2 (small_of h.1) (small_of6 h.2)) (by simp) rfl names (by simp [Rg.dep])
  | .rowsUp a k, h, _ => rt_leaf W_rows_up (by kernel_rfl) (sm2 (small_of h.1) (small_of6 h.2)) (by simp) rfl names (by simp [Rg.dep])
  | .cols a k, h, _ => rt_leaf W_cols (by kernel_rfl) (sm2 (small_of h.1) (small_of6 h.2)) (by simp) rfl names (by simp [Rg.dep])
  | .colsBack a k, h, _ => rt_leaf W_cols_back (by kernel_rfl) (sm2 (small_of h.1) (small_of6 h.2)) (by simp) rfl names (by simp [Rg.dep])
  | .and x y, h, hd => by
    simp only [Rg.dep] at hd ⊢
    have l1 := tx_len h.1 (by omega)
    have l2 := tx_len h.2 (by omega)
    exact (ri_two (m := 2 * max x.dep y.dep + 2) (B := 8) T_and.toInOk ((ri_tx names x h.1 (by omega)).mono (by omega)) ((ri_tx names y h.2 (by omega)).mono (by omega)) (tx_wk x h.1 (by omega) (by omega)) (tx_wk y h.2 (by omega) (by omega)) (tx_ok x h.1).asc (tx_ok y h.2).asc (by omega) (by omega) (by omega) rfl (by omega)).mono (by omega)
  | .or x y, h, hd => by
    simp only [Rg.dep] at hd ⊢
    have l1 := tx_len h.1 (by omega)
    have l2 := tx_len h.2 (by omega)
    exact (ri_two (m := 2 * max x.dep y.dep + 2) (B := 8) T_or.toInOk ((ri_tx names x h.1 (by omega)).mono (by omega)) ((ri_tx names y h.2 (by omega)).mono (by omega)) (tx_wk x h.1 (by omega) (by omega)) (tx_wk y h.2 (by omega) (by omega)) (tx_ok x h.1).asc (tx_ok y h.2).asc (by omega) (by omega) (by omega) rfl (by omega)).mono (by omega)
  | .not x, h, hd => by
    simp only [Rg.dep] at hd ⊢
    have l1 := tx_len (r := x) h (by omega)
    exact (ri_one (B := 8) T_not.toInOk (ri_tx names x h (by omega)) (tx_wk x h (by omega) (by omega)) (tx_ok x h).asc (by omega) (by omega) rfl (by omega)).mono (by omega)
  | .mirror x, h, hd => by
    simp only [Rg.dep] at hd ⊢
    have l1 := tx_len (r := x) h (by omega)
    exact (ri_one (B := 8) T_mirror.toInOk (ri_tx names x h (by omega)) (tx_wk x h (by omega) (by omega)) (tx_ok x h).asc (by omega) (by omega) rfl (by omega)).mono (by omega)
  | .flip x, h, hd => by
    simp only [Rg.dep] at hd ⊢
    have l1 := tx_len (r := x) h (by omega)
    exact (ri_one (B := 8) T_flip.toInOk (ri_tx names x h (by omega)) (tx_wk x h (by omega) (by omega)) (tx_ok x h).asc (by omega) (by omega) rfl (by omega)).mono (by omega)
  | .turn x, h, hd => by
    simp only [Rg.dep] at hd ⊢
    have l1 := tx_len (r := x) h (by omega)
    exact (ri_one (B := 8) T_turn.toInOk (ri_tx names x h (by omega)) (tx_wk x h (by omega) (by omega)) (tx_ok x h).asc (by omega) (by omega) rfl (by omega)).mono (by omega)
  | .move p q x, h, hd => by
    simp only [Rg.dep] at hd ⊢
    have l1 := tx_len h.2.2 (by omega)
    exact (ri_move (B := 8) (small_of7 h.1) (small_of7 h.2.1) (ri_tx names x h.2.2 (by omega)) (tx_wk x h.2.2 (by omega) (by omega)) (tx_ok x h.2.2).asc (by omega) (by omega) (by omega)).mono (by omega)
theorem ti_two {m : Nat} {w : Str} {t u : List Nat} {x y r : Rg} {k : Int} (hw : TwOk w k) (h : TI m t x) (g : TI m u y) (h1 : t.length ≤ 5000) (h2 : u.length ≤ 5000) (hr : r.pv = .tup [.str w, x.pv, y.pv]) (hm : 1 ≤ m) : TI (m + 1) (lt w ++ 40 :: (t ++ 44 :: 32 :: u ++ [41])) r :=
  ti_in (zs := [(t, x), (u, y)]) (u := t ++ 44 :: 32 :: u) hw (by simpa using ⟨h, g⟩) (by simp) (by simp) (by rw [l_comma]; simpa using join2 [44, 32] t u) (by simpa using ⟨h1, h2⟩) (by simp; omega) hr hm
theorem ti_one {m : Nat} {w : Str} {t : List Nat} {x r : Rg} {k : Int} (hw : TwOk w k) (h : TI m t x) (h1 : t.length ≤ 5000) (hr : r.pv = .tup [.str w, x.pv]) (hm : 1 ≤ m) : TI (m + 1) (lt w ++ 40 :: (t ++ [41])) r :=
  ti_in (zs := [(t, x)]) (u := t) hw (by simpa using h) (by simp) (by simp) (join1 _ _) (by simpa using h1) (by omega) hr hm
theorem ti_tx : ∀ r : Rg, r.Ok → r.dep ≤ 6 → TI r.dep (tx r) r
  | .all, _, _ => ti_leaf W_all (by kernel_rfl) (by kernel_rfl) (by simp) (by simp) rfl (by simp [Rg.dep])
  | .none, _, _ => ti_leaf W_none (by kernel_rfl) (by kernel_rfl) (by simp) (by simp) rfl (by simp [Rg.dep])
  | .high a, h, _ => ti_leaf W_high (by kernel_rfl) (by kernel_rfl) (sm1 (small_of h)) (by simp) rfl (by simp [Rg.dep])
  | .wide a, h, _ => ti_leaf W_wide (by kernel_rfl) (by kernel_rfl) (sm1 (small_of h)) (by simp) rfl (by simp [Rg.dep])
  | .border a, h, _ => ti_leaf W_border (by kernel_rfl) (by kernel_rfl) (sm1 (small_of h)) (by simp) rfl (by simp [Rg.dep])
  | .rows a k, h, _ => ti_leaf W_rows (by kernel_rfl) (by kernel_rfl) (sm2 (small_of h.1) (small_of6 h.2)) (by simp) rfl (by simp [Rg.dep])
  | .rowsUp a k, h, _ => ti_leaf W_rows_up (by kernel_rfl) (by kernel_rfl) (sm2 (small_of h.1) (small_of6 h.2)) (by simp) rfl (by simp [Rg.dep])
  | .cols a k, h, _ => ti_leaf W_cols (by kernel_rfl) (by kernel_rfl) (sm2 (small_of h.1) (small_of6 h.2)) (by simp) rfl (by simp [Rg.dep])
  | .colsBack a k, h, _ => ti_leaf W_cols_back (by kernel_rfl) (by kernel_rfl) (sm2 (small_of h.1) (small_of6 h.2)) (by simp) rfl (by simp [Rg.dep])
  | .and x y, h, hd => by
    simp only [Rg.dep] at hd ⊢
    have l1 := tx_len h.1 (by omega)
    have l2 := tx_len h.2 (by omega)
    have := dep_pos x
    exact ti_two T_and ((ti_tx x h.1 (by omega)).mono (by omega)) ((ti_tx y h.2 (by omega)).mono (by omega)) (by omega) (by omega) rfl (by omega)
  | .or x y, h, hd => by
    simp only [Rg.dep] at hd ⊢
    have l1 := tx_len h.1 (by omega)
    have l2 := tx_len h.2 (by omega)
    have := dep_pos x
    exact ti_two T_or ((ti_tx x h.1 (by omega)).mono (by omega)) ((ti_tx y h.2 (by omega)).mono (by omega)) (by omega) (by omega) rfl (by omega)
  | .not x, h, hd => by
    simp only [Rg.dep] at hd ⊢
    have l1 := tx_len (r := x) h (by omega)
    exact ti_one T_not (ti_tx x h (by omega)) (by omega) rfl (dep_pos x)
  | .mirror x, h, hd => by
    simp only [Rg.dep] at hd ⊢
    have l1 := tx_len (r := x) h (by omega)
    exact ti_one T_mirror (ti_tx x h (by omega)) (by omega) rfl (dep_pos x)
  | .flip x, h, hd => by
    simp only [Rg.dep] at hd ⊢
    have l1 := tx_len (r := x) h (by omega)
    exact ti_one T_flip (ti_tx x h (by omega)) (by omega) rfl (dep_pos x)
  | .turn x, h, hd => by
    simp only [Rg.dep] at hd ⊢
    have l1 := tx_len (r := x) h (by omega)
    exact ti_one T_turn (ti_tx x h (by omega)) (by omega) rfl (dep_pos x)
  | .move p q x, h, hd => by
    simp only [Rg.dep] at hd ⊢
    have l1 := tx_len h.2.2 (by omega)
    exact ti_move (small_of7 h.1) (small_of7 h.2.1) (ti_tx x h.2.2 (by omega)) (by omega) (dep_pos x)
theorem rt_tx (names : PV) (r : Rg) (ok : r.Ok) (hd : r.dep ≤ 6) : Rt (2 * r.dep + 2) names (tx r) r :=
  ⟨ri_tx names r ok hd, tx_wk r ok (by omega) (by omega), by
    have h := tx_ok r ok
    have := tx_len ok hd
    exact ⟨h.asc, h.nl, h.pos, by omega⟩, ok, by omega⟩
/-- good_region tells it -/
theorem good_ok {m : Nat} {names : PV} {t : List Nat} {r : Rg} (h : Rt m names t r) (e : Nat) (hm : 1 ≤ m) : (env (e + m + r.dep + 4)).p_good_region [.str (sl t), names] = .ok r.pv := by
  obtain ⟨f, hf, h1⟩ := brackets_ok (by omega) h.wk (e + m + r.dep + 2)
  have h2 := (h.ri.mono (n := m + r.dep + 3) (by omega)) e
  have h3 := is_region r h.ok (e + m) h.dep
  show runB 3 (d_good_region (env (e + m + r.dep + 3))) _ = _
  rw [runB_fin]
  rw [show e + (m + r.dep + 3) = e + m + r.dep + 3 by omega] at h2
  rw [show e + m + r.dep + 2 + 1 = e + m + r.dep + 3 by omega] at h1
  generalize env (e + m + r.dep + 3) = E at *
  have l := h.tx.len
  have l2 : t.length ≤ 1000000 := by omega
  have p : ¬ ((t.length : Int) = 0) := by have := h.tx.pos; omega
  have hf2 : f ≤ 8 := hf
  have pn : t ≠ [] := fun e => by have := h.tx.pos; rw [e] at this; cases this
  simp [d_good_region, st0, h1, h2, h3, l2, p, hf2, pv_isN r, pn]
theorem check_pic (e : Nat) {t : List Nat} {r : Rg} {m : Nat} (h : Rt m (.dks [] []) t r) (hm : 1 ≤ m) : (env (e + m + r.dep + 5)).p_read [.str (sl t)] = .ok r.pv := by
  have h1 := good_ok h e hm
  show runB 2 (d_read (env (e + m + r.dep + 4))) _ = _
  rw [runB_fin]
  generalize env (e + m + r.dep + 4) = E at *
  simp [d_read, st0, h1, pv_isN r]
theorem write_ok (r : Rg) (ok : r.Ok) (hd : r.dep ≤ 6) (e : Nat) : (env (e + r.dep + 5)).p_write [r.pv] = .ok (.str (sl (tx r))) := by
  have h1 := check_region r ok e (by omega)
  have h2 := (((ti_tx r ok hd).mono (n := r.dep + 4) (by omega)) e).2
  show runB 1 (d_write (env (e + r.dep + 4))) _ = _
  rw [runB_fin]
  rw [show e + (r.dep + 4) = e + r.dep + 4 by omega] at h2
  generalize env (e + r.dep + 4) = E at *
  simp [d_write, st0, h1, h2]
end Pl

set_option maxHeartbeats 4000000
/-! S9g: what is alike; pictures. -/
namespace Pl
open PySem PySem.Spec PyProof.Rows L2
/-- a value is like itself, with m calls -/
def Lk (m : Nat) (p : PV) : Prop := ∀ e, (env (e + m)).p_l_like [p, p] = .ok (.bl true)
theorem Lk.mono {m n : Nat} {p : PV} (h : Lk m p) (hm : m ≤ n) : Lk n p := fun e => by
  have := h (e + (n - m))
  rw [show e + (n - m) + m = e + n by omega] at this
  exact this
theorem lk_int (i : Int) : Lk 1 (.int i) := fun e => by
  have e0 : (env (e + 1)).p_l_like = runB 4 (d_l_like (env e)) := rfl
  rw [e0, runB_fin]
  generalize env e = E
  have i1 : pIsi "dict" (.int i) = some (.bl false) := rfl
  have i2 : pIsi "bool" (.int i) = some (.bl false) := rfl
  simp [d_l_like, st0, i1, i2]
theorem lk_str {x : Str} (h : PyData.strOk x = true) : Lk 1 (.str x) := fun e => by
  have e0 : (env (e + 1)).p_l_like = runB 4 (d_l_like (env e)) := rfl
  rw [e0, runB_fin]
  generalize env e = E
  have i1 : pIsi "dict" (.str x) = some (.bl false) := rfl
  have i2 : pIsi "bool" (.str x) = some (.bl false) := rfl
  have i3 : pIsi "int" (.str x) = some (.bl false) := rfl
  have i4 : pIsi "str" (.str x) = some (.bl true) := rfl
  have q := pEq_str h h
  simp [d_l_like, st0, i1, i2, i3, i4, q]
theorem mem_range {m : Int} {p : PV} (h : p ∈ rangeL 0 m) : ∃ j : Int, p = .int j ∧ 0 ≤ j ∧ j < m := by
  unfold rangeL at h
  obtain ⟨j, hj, rfl⟩ := List.mem_map.mp h
  have := List.mem_range.mp hj
  exact ⟨_, rfl, by omega, by omega⟩
theorem lk_tup {m : Nat} {xs : List PV} (h : ∀ p ∈ xs, Lk m p) (hl : xs.length ≤ 1000) : Lk (m + 1) (.tup xs) := fun e => by
  have h1 := fun p hp => h p hp e
  have e0 : (env (e + (m + 1))).p_l_like = runB 4 (d_l_like (env (e + m))) := rfl
  rw [e0, runB_fin]
  generalize env (e + m) = E at *
  have i1 : pIsi "dict" (.tup xs) = some (.bl false) := rfl
  have i2 : pIsi "bool" (.tup xs) = some (.bl false) := rfl
  have i3 : pIsi "int" (.tup xs) = some (.bl false) := rfl
  have i4 : pIsi "str" (.tup xs) = some (.bl false) := rfl
  have i5 : pIsi "tuple" (.tup xs) = some (.bl true) := rfl
  have loop : ∀ (ks : List PV) (sg : Option SV), (∀ k ∈ ks, ∃ j : Int, k = .int j ∧ 0 ≤ j ∧ j < xs.length) → ∃ sg', forL (.one 2) (b_l_like_1 E) ks [some (.val (.tup xs)), some (.val (.tup xs)), sg, none] = .nx [some (.val (.tup xs)), some (.val (.tup xs)), sg', none] := by
    intro ks
    induction ks with
    | nil => exact fun sg _ => ⟨sg, rfl⟩
    | cons k ks ih =>
      intro sg hk
      obtain ⟨j, rfl, j0, j1⟩ := hk k List.mem_cons_self
      obtain ⟨sg', h2⟩ := ih (some (.val (.int j))) fun k m => hk k (List.mem_cons_of_mem _ m)
      refine ⟨sg', Eq.trans (forL_nx rfl ?_) h2⟩
      obtain ⟨p, hp, hat⟩ := pick_in j0 j1
      have := h1 p hp
      simp [b_l_like_1, hat, this]
  obtain ⟨sg, h2⟩ := loop (rangeL 0 xs.length) none fun k m => mem_range m
  have r2 : ∀ y z, dRange1 (dCons (dFun fLen (dCons (dVar 1) dNil)) dNil) [some (.val (.tup xs)), some (.val (.tup xs)), y, z] = .ok (rangeL 0 (xs.length : Int)) [some (.val (.tup xs)), some (.val (.tup xs)), y, z] := fun y z => rng_ok (by simp) (by omega) (by omega)
  have fin_of : ∀ ρ, d_l_like E (st0 4 [.tup xs, .tup xs]) = .rt (.bl true) ρ → fin (d_l_like E (st0 4 [.tup xs, .tup xs])) = .ok (.bl true) := fun ρ h => by rw [h]; rfl
  have e1 : st0 4 [PV.tup xs, PV.tup xs] = [some (.val (.tup xs)), some (.val (.tup xs)), none, none] := rfl
  refine fin_of [some (.val (.tup xs)), some (.val (.tup xs)), sg, none] ?_
  unfold d_l_like
  rw [e1]
  have ne := pNe_self (xs.length : Int)
  refine Eq.trans (seq_nx (ρ' := [some (.val (.tup xs)), some (.val (.tup xs)), none, none]) (by simp [i1])) ?_
  refine Eq.trans (seq_nx (ρ' := [some (.val (.tup xs)), some (.val (.tup xs)), none, none]) (by simp)) ?_
  refine Eq.trans (seq_nx (ρ' := [some (.val (.tup xs)), some (.val (.tup xs)), none, none]) (by simp [i2])) ?_
  refine Eq.trans (seq_nx (ρ' := [some (.val (.tup xs)), some (.val (.tup xs)), none, none]) (by simp [i3])) ?_
  refine Eq.trans (seq_nx (ρ' := [some (.val (.tup xs)), some (.val (.tup xs)), none, none]) (by simp [i4])) ?_
  refine Eq.trans (seq_nx (ρ' := [some (.val (.tup xs)), some (.val (.tup xs)), none, none]) (by simp [-pNe_i, i5, ne])) ?_
  refine Eq.trans (seq_nx (ρ' := [some (.val (.tup xs)), some (.val (.tup xs)), sg, none]) ?_) rfl
  simp [-e_rga, r2, h2]
theorem lk_rg : ∀ r : Rg, Lk (r.dep + 1) r.pv := by
  have st : ∀ {w : Str} {xs : List PV} {n : Nat}, PyData.strOk w = true → (∀ p ∈ xs, Lk (n + 1) p) → ∀ p ∈ PV.str w :: xs, Lk (n + 1) p := fun hw h p m => by
    rcases List.mem_cons.mp m with rfl | m
    · exact (lk_str hw).mono (by omega)
    · exact h p m
  have no : ∀ {n : Nat}, ∀ p ∈ ([] : List PV), Lk n p := fun p m => by cases m
  have cn : ∀ {x : PV} {xs : List PV} {n : Nat}, Lk n x → (∀ p ∈ xs, Lk n p) → ∀ p ∈ x :: xs, Lk n p := fun hw h p m => by
    rcases List.mem_cons.mp m with rfl | m
    · exact hw
    · exact h p m
  have it : ∀ (i : Int) (n : Nat), Lk (n + 1) (.int i) := fun i n => (lk_int i).mono (by omega)
  intro r
  induction r with
  | all => exact lk_tup (st (n := 0) (by kernel_rfl) no) (by simp)
  | none => exact lk_tup (st (n := 0) (by kernel_rfl) no) (by simp)
  | high a => exact lk_tup (st (n := 0) (by kernel_rfl) (cn (it _ _) no)) (by simp)
  | wide a => exact lk_tup (st (n := 0) (by kernel_rfl) (cn (it _ _) no)) (by simp)
  | border a => exact lk_tup (st (n := 0) (by kernel_rfl) (cn (it _ _) no)) (by simp)
  | rows a k => exact lk_tup (st (n := 0) (by kernel_rfl) (cn (it _ _) (cn (it _ _) no))) (by simp)
  | rowsUp a k => exact lk_tup (st (n := 0) (by kernel_rfl) (cn (it _ _) (cn (it _ _) no))) (by simp)
  | cols a k => exact lk_tup (st (n := 0) (by kernel_rfl) (cn (it _ _) (cn (it _ _) no))) (by simp)
  | colsBack a k => exact lk_tup (st (n := 0) (by kernel_rfl) (cn (it _ _) (cn (it _ _) no))) (by simp)
  | and x y ihx ihy => exact lk_tup (st (by kernel_rfl) (cn (ihx.mono (Nat.succ_le_succ (Nat.le_max_left ..))) (cn (ihy.mono (Nat.succ_le_succ (Nat.le_max_right ..))) no))) (by simp)
  | or x y ihx ihy => exact lk_tup (st (by kernel_rfl) (cn (ihx.mono (Nat.succ_le_succ (Nat.le_max_left ..))) (cn (ihy.mono (Nat.succ_le_succ (Nat.le_max_right ..))) no))) (by simp)
  | not x ih => exact lk_tup (st (by kernel_rfl) (cn ih no)) (by simp)
  | mirror x ih => exact lk_tup (st (by kernel_rfl) (cn ih no)) (by simp)
  | flip x ih => exact lk_tup (st (by kernel_rfl) (cn ih no)) (by simp)
  | turn x ih => exact lk_tup (st (by kernel_rfl) (cn ih no)) (by simp)
  | move p q x ih => exact lk_tup (st (by kernel_rfl) (cn (it _ _) (cn (it _ _) (cn ih no)))) (by simp)
/-! ### pictures -/
abbrev Pt := Str × Rg
def ptv (p : Pt) : PV := .tup [.str p.1, p.2.pv]
def picv (ps : List Pt) : PV := .tup (ps.map ptv)
structure ColOk (c : Str) : Prop extends WOk c where
  col : ∀ e, (env (e + 1)).p_is_colour [.str c] = .ok (.bl true)
  nl : (lt c ++ [32]).take 4 ≠ lt "let "
theorem C_red : ColOk "red" := ⟨w_ok (by kernel_rfl), fun e => by kernel_rfl, by decide +kernel⟩
theorem C_blue : ColOk "blue" := ⟨w_ok (by kernel_rfl), fun e => by kernel_rfl, by decide +kernel⟩
theorem C_gold : ColOk "gold" := ⟨w_ok (by kernel_rfl), fun e => by kernel_rfl, by decide +kernel⟩
/-- a line of a picture -/
def ln (c : Str) (t : List Nat) : List Nat := lt c ++ 32 :: t
theorem ln_let {c : Str} (hc : ColOk c) (h3 : 3 ≤ (lt c).length) (t : List Nat) : Txt.startswith (sl (ln c t)) "let " = false := by
  have e : ("let " : Str) = sl (lt "let ") := (sl_lt _).symm
  have l4 : (lt "let ").length = 4 := by kernel_rfl
  rw [e, starts_sl, l4]
  have : ((ln c t).take 4 == lt "let ") = false := by
    rw [beq_eq_false_iff_ne]
    intro h
    apply hc.nl
    rw [← h]
    unfold ln
    rw [show lt c ++ 32 :: t = (lt c ++ [32]) ++ t by simp, List.take_append_of_le_length (l₁ := lt c ++ [32]) (by rw [List.length_append]; show 4 ≤ (lt c).length + 1; omega)]
  rw [this, Bool.and_false]
theorem head_paint {c : Str} (hc : ColOk c) (h3 : 3 ≤ (lt c).length) {m : Nat} {names : PV} {t : List Nat} {r : Rg} (h : Rt m names t r) (hm : 1 ≤ m) (e : Nat) : (env (e + m + r.dep + 5)).p_head_and_region [.str (sl (ln c t)), names] = .ok (.tup [.str c, r.pv]) := by
  have h1 := good_ok h e hm
  have h2 := hc.col (e + m + r.dep + 3)
  rw [show e + m + r.dep + 3 + 1 = e + m + r.dep + 4 by omega] at h2
  show runB 5 (d_head_and_region (env (e + m + r.dep + 4))) _ = _
  rw [runB_fin]
  generalize env (e + m + r.dep + 4) = E at *
  have hl := h.tx.len
  have cl := hc.len
  have h4 := ln_let hc h3 t
  have hsp := pSplit_c 32 (ln c t) (by unfold LIM ln; simp; omega)
  unfold ln at hsp h4 ⊢
  rw [spl_app 32 (lt c) t (fun m => (hc.no 32 m).1 rfl)] at hsp
  have hs : pSl (.str (sl (lt c ++ 32 :: t))) (some ((c.length : Int) + 1)) none = some (.str (sl t)) := by
    rw [pSl_sl _ _ _ (by unfold LIM; simp; omega)]
    have := cut_from (lt c ++ [32]) t
    have e1 : (lt c ++ [32]) ++ t = lt c ++ 32 :: t := by simp
    have e2 : (((lt c ++ [32]).length : Nat) : Int) = (c.length : Int) + 1 := by rw [lt_len c]; simp
    rw [e1, e2] at this
    rw [this]
  have wl : c.length ≤ LIM := by rw [lt_len]; unfold LIM; omega
  generalize hL : lt c ++ 32 :: t = L at *
  simp [-pSplit_s, d_head_and_region, st0, h4, l_blank, hsp, fLen, wl, hs, h2, h1]
end Pl

set_option maxHeartbeats 4000000
/-! S9h: pictures there and back. -/
namespace Pl
open PySem PySem.Spec PyProof.Rows L2
/-- a picture as the law draws it -/
structure PicOk (ps : List Pt) : Prop where
  len : ps.length ≤ 4
  each : ∀ p ∈ ps, (p.1 = "red" ∨ p.1 = "blue" ∨ p.1 = "gold") ∧ p.2.Ok ∧ p.2.dep ≤ 2
theorem col_of {c : Str} (h : c = "red" ∨ c = "blue" ∨ c = "gold") : ColOk c ∧ 3 ≤ (lt c).length ∧ (lt c).length ≤ 4 ∧ PyData.strOk c = true := by
  rcases h with rfl | rfl | rfl
  · exact ⟨C_red, by decide +kernel, by decide +kernel, by kernel_rfl⟩
  · exact ⟨C_blue, by decide +kernel, by decide +kernel, by kernel_rfl⟩
  · exact ⟨C_gold, by decide +kernel, by decide +kernel, by kernel_rfl⟩
theorem allBl_map {α : Type} : ∀ xs : List α, allBl (xs.map fun _ => PV.bl true) = some (xs.map fun _ => true)
  | [] => rfl
  | x :: xs => by
    simp only [List.map_cons, allBl, allBl_map xs, Option.map_some]
theorem fAll_true {α : Type} (xs : List α) : fAll [.lst (xs.map fun _ => PV.bl true)] = some (.bl true) := by
  simp [fAll, allBl_map]
theorem is_paint {p : Pt} (hc : p.1 = "red" ∨ p.1 = "blue" ∨ p.1 = "gold") (ok : p.2.Ok) (hd : p.2.dep ≤ 2) (e : Nat) : (env (e + 6)).p_is_paint [ptv p] = .ok (.bl true) := by
  have h1 := (is_region p.2 ok (e + (2 - p.2.dep)) (by omega))
  rw [show e + (2 - p.2.dep) + p.2.dep + 3 = e + 5 by omega] at h1
  have h2 := (col_of hc).1.col (e + 4)
  rw [show e + 4 + 1 = e + 5 by omega] at h2
  show runB 1 (d_is_paint (env (e + 5))) _ = _
  rw [runB_fin]
  generalize env (e + 5) = E at *
  unfold ptv
  have i5 : pIsi "tuple" (.tup [.str p.1, p.2.pv]) = some (.bl true) := rfl
  simp [d_is_paint, st0, i5, h1, h2]
theorem is_picture {ps : List Pt} (h : PicOk ps) (e : Nat) : (env (e + 7)).p_is_picture [picv ps] = .ok (.bl true) := by
  have h1 := fun p hp => is_paint (h.each p hp).1 (h.each p hp).2.1 (h.each p hp).2.2 e
  show runB 2 (d_is_picture (env (e + 6))) _ = _
  rw [runB_fin]
  generalize env (e + 6) = E at *
  unfold picv
  have i5 : pIsi "tuple" (.tup (ps.map ptv)) = some (.bl true) := rfl
  have c := compL_map (g := .one 1) (body := c_is_picture_0 E) (ρ := [some (.val (.tup (ps.map ptv))), none]) (f := ptv) (y := fun _ => .bl true) ps fun p m => ⟨_, rfl, [some (.val (.tup (ps.map ptv))), some (.val (ptv p))], by simp [h1 p m]⟩
  have l := h.len
  have l2 : ps.length ≤ LIM := by unfold LIM; omega
  have l3 : (ps.length : Int) ≤ 6 := by omega
  simp [d_is_picture, st0, i5, valsOf, wipeR, c, l2, l3, fAll_true]
theorem check_picture {ps : List Pt} (h : PicOk ps) (e : Nat) : (env (e + 8)).p_check_picture [picv ps] = .ok .non := by
  have h1 := is_picture h e
  show runB 1 (d_check_picture (env (e + 7))) _ = _
  rw [runB_fin]
  generalize env (e + 7) = E at *
  simp [d_check_picture, st0, h1]
/-- the text of a picture -/
def lines (ps : List Pt) : List (List Nat) := ps.map fun p => ln p.1 (tx p.2)
def ptx (ps : List Pt) : List Nat := List.intercalate [10] (lines ps)
theorem join_lines (ps : List Pt) : Txt.join "\n" (ps.map fun p => sl (ln p.1 (tx p.2))) = sl (ptx ps) := by
  apply str_ext
  rw [lt_join, lt_sl]
  have : lt "\n" = [10] := by kernel_rfl
  rw [this]
  unfold ptx lines
  simp [Function.comp_def]
theorem ln_len {p : Pt} (hc : p.1 = "red" ∨ p.1 = "blue" ∨ p.1 = "gold") (ok : p.2.Ok) (hd : p.2.dep ≤ 2) : (ln p.1 (tx p.2)).length ≤ 200 := by
  have h1 := (tx_ok p.2 ok).len
  have : 2 ^ p.2.dep ≤ 2 ^ 2 := Nat.pow_le_pow_right (by omega) hd
  have h2 := (col_of hc).2.2.1
  unfold ln
  simp
  omega
theorem sum_lines : ∀ {ps : List Pt}, (∀ p ∈ ps, (ln p.1 (tx p.2)).length ≤ 200) → ((ps.map fun p => sl (ln p.1 (tx p.2))).map (·.length)).sum ≤ 200 * ps.length
  | [], _ => by simp
  | a :: ps, h => by
    have := sum_lines fun b m => h b (List.mem_cons_of_mem a m)
    have := h a List.mem_cons_self
    simp at *
    omega
theorem pjoin_lines {ps : List Pt} (h : PicOk ps) : pJoin (.str "\n") (.lst (ps.map fun p => .str (sl (ln p.1 (tx p.2))))) = some (.str (sl (ptx ps))) := by
  have j := pJoin_l "\n" (ps.map fun p => sl (ln p.1 (tx p.2))) (by
    have h1 := sum_lines fun p m => ln_len (h.each p m).1 (h.each p m).2.1 (h.each p m).2.2
    rw [show (("\n" : Str)).length = 1 by kernel_rfl, List.length_map]
    have := h.len
    unfold LIM
    omega)
  rw [join_lines] at j
  simpa [Function.comp_def] using j
theorem write_picture {ps : List Pt} (h : PicOk ps) (e : Nat) : (env (e + 9)).p_write_picture [picv ps] = .ok (.str (sl (ptx ps))) := by
  have h1 := check_picture h e
  have h2 := fun p hp => (((ti_tx p.2 (h.each p hp).2.1 (by have := (h.each p hp).2.2; omega)).mono (n := 8) (by have := (h.each p hp).2.2; omega)) e).2
  show runB 3 (d_write_picture (env (e + 8))) _ = _
  rw [runB_fin]
  generalize env (e + 8) = E at *
  unfold picv at *
  have l_nl : ("\n" : Str) = sl [10] := by kernel_rfl
  have c := compL_map (g := .tup [1, 2]) (body := c_write_picture_0 E) (ρ := [some (.val (.tup (ps.map ptv))), none, none]) (f := ptv) (y := fun p => .str (sl (ln p.1 (tx p.2)))) ps fun p m => ⟨_, rfl, [some (.val (.tup (ps.map ptv))), some (.val (.str p.1)), some (.val p.2.pv)], by
    have l := ln_len (h.each p m).1 (h.each p m).2.1 (h.each p m).2.2
    unfold ln at l
    rw [List.length_append, List.length_cons] at l
    have f1 : pFmt (.str p.1) = some (.str (sl (lt p.1))) := by rw [sl_lt]; exact if_pos (by rw [lt_len]; unfold LIM; omega)
    have f2 : pFmt (.str (sl (tx p.2))) = some (.str (sl (tx p.2))) := if_pos (by rw [sl_len]; unfold LIM; omega)
    simp (disch := (simp only [List.length_append, List.length_cons, List.length_nil]; omega)) [-js3_ok, -sl_lt, js3S, str_empty, f1, l_blank, h2 p m, f2, ln]⟩
  have l2 : ps.length ≤ LIM := by have := h.len; unfold LIM; omega
  have j := pjoin_lines h
  simp [d_write_picture, st0, h1, valsOf, wipeR, c, l2, j]
/-! reading -/
theorem rg_noD : ∀ r : Rg, noD r.pv = true := by
  have cn : ∀ {x : PV} {xs : List PV}, noD x = true → noDs xs = true → noDs (x :: xs) = true := fun h g => by
    show (noD _ && noDs _) = true
    rw [h, g]
    rfl
  intro r
  induction r with
  | and x y ihx ihy => exact cn rfl (cn ihx (cn ihy rfl))
  | or x y ihx ihy => exact cn rfl (cn ihx (cn ihy rfl))
  | not x ih => exact cn rfl (cn ih rfl)
  | mirror x ih => exact cn rfl (cn ih rfl)
  | flip x ih => exact cn rfl (cn ih rfl)
  | turn x ih => exact cn rfl (cn ih rfl)
  | move p q x ih => exact cn rfl (cn rfl (cn rfl (cn ih rfl)))
  | _ => rfl
theorem paint_step (E : Env) {text : PV} {ks vs ps : List PV} {k : Nat} {l : List Nat} {c : Str} {r : Rg} {a5 a6 a7 : Option SV} (hh : E.p_head_and_region [.str (sl l), .dks ks vs] = .ok (.tup [.str c, r.pv])) (hs : Txt.startswith (sl l) "let " = false) (hl : ps.length ≤ 5) :
    b_read_picture_0 E [some (.val text), some (.own (.dks ks vs)), some (.own (.lst ps)), some (.val (.int k)), some (.val (.str (sl l))), a5, a6, a7] =
      .nx [some (.val text), some (.own (.dks ks vs)), some (.own (.lst (ps ++ [.tup [.str c, r.pv]]))), some (.val (.int k)), some (.val (.str (sl l))), some (.val (.str c)), some (.val r.pv), some (.val (.bl false))] := by
  have n3 : noD (.tup [.str c, r.pv]) = true := by
    show (true && (noD r.pv && true)) = true
    rw [rg_noD]
    rfl
  have l6 : ¬ (ps.length = 6) := by omega
  have l6' : ¬ ((ps.length : Int) = 6) := by omega
  have l7 : ps.length < LIM := by unfold LIM; omega
  simp [b_read_picture_0, hh, n3, hs, pv_isN r, l6', l7]
end Pl

set_option maxHeartbeats 4000000
/-! S9i: pictures are read; pictures drawn. -/
namespace Pl
open PySem PySem.Spec PyProof.Rows L2
theorem spl_inter : ∀ {L : List (List Nat)}, L ≠ [] → (∀ l ∈ L, 10 ∉ l) → spl 10 (List.intercalate [10] L) = L
  | [], h, _ => absurd rfl h
  | [a], _, h => by
    have := spl_no 10 a (h a List.mem_cons_self)
    simpa [List.intercalate] using this
  | a :: b :: L, _, h => by
    have ih := spl_inter (L := b :: L) (by simp) fun l m => h l (List.mem_cons_of_mem _ m)
    have e : List.intercalate [10] (a :: b :: L) = a ++ 10 :: List.intercalate [10] (b :: L) := by simp [List.intercalate]
    rw [e, spl_app 10 a _ (h a List.mem_cons_self), ih]
theorem ln_no {p : Pt} (hc : p.1 = "red" ∨ p.1 = "blue" ∨ p.1 = "gold") (ok : p.2.Ok) : 10 ∉ ln p.1 (tx p.2) := by
  intro m
  unfold ln at m
  simp only [List.mem_append, List.mem_cons] at m
  rcases m with m | m | m
  · exact ((col_of hc).1.no 10 m).2.2.2.2 rfl
  · cases m
  · exact (tx_ok p.2 ok).nl 10 m rfl
theorem ptx_len : ∀ {ps : List Pt}, (∀ p ∈ ps, (ln p.1 (tx p.2)).length ≤ 200) → (ptx ps).length ≤ 201 * ps.length
  | [], _ => by simp [ptx, lines]
  | [a], h => by
    have := h a List.mem_cons_self
    simp [ptx, lines, List.intercalate] at *
    omega
  | a :: b :: ps, h => by
    have ih := ptx_len (ps := b :: ps) fun p m => h p (List.mem_cons_of_mem _ m)
    have := h a List.mem_cons_self
    have e : ptx (a :: b :: ps) = ln a.1 (tx a.2) ++ 10 :: ptx (b :: ps) := by simp [ptx, lines, List.intercalate]
    rw [e]
    simp at *
    omega
theorem ptx_pos : ∀ {ps : List Pt}, ps ≠ [] → ptx ps ≠ []
  | [], h => absurd rfl h
  | [a], _ => by simp [ptx, lines, List.intercalate, ln]
  | a :: b :: ps, _ => by simp [ptx, lines, List.intercalate, ln]
theorem read_loop (E : Env) {text : PV} : ∀ (ps : List Pt) (acc : List PV) (k : Nat) {a3 a4 a5 a6 a7 : Option SV}, acc.length + ps.length ≤ 6 → (∀ p ∈ ps, (p.1 = "red" ∨ p.1 = "blue" ∨ p.1 = "gold") ∧ E.p_head_and_region [.str (sl (ln p.1 (tx p.2))), .dks [] []] = .ok (ptv p)) →
    ∃ b3 b4 b5 b6 b7, forL (.tup [3, 4]) (b_read_picture_0 E) (enumL k (ps.map fun p => .str (sl (ln p.1 (tx p.2))))) [some (.val text), some (.own (.dks [] [])), some (.own (.lst acc)), a3, a4, a5, a6, a7] =
      .nx [some (.val text), some (.own (.dks [] [])), some (.own (.lst (acc ++ ps.map ptv))), b3, b4, b5, b6, b7]
  | [], acc, k, a3, a4, a5, a6, a7, _, _ => ⟨a3, a4, a5, a6, a7, by simp [enumL]⟩
  | p :: ps, acc, k, a3, a4, a5, a6, a7, hl, h => by
    obtain ⟨hc, hh⟩ := h p List.mem_cons_self
    have hl : acc.length + (ps.length + 1) ≤ 6 := hl
    obtain ⟨b3, b4, b5, b6, b7, ih⟩ := read_loop E ps (acc ++ [ptv p]) (k + 1) (a3 := some (.val (.int k))) (a4 := some (.val (.str (sl (ln p.1 (tx p.2)))))) (a5 := some (.val (.str p.1))) (a6 := some (.val p.2.pv)) (a7 := some (.val (.bl false))) (by simp; omega) fun q m => h q (List.mem_cons_of_mem _ m)
    refine ⟨b3, b4, b5, b6, b7, ?_⟩
    have st := paint_step E (text := text) (ks := []) (vs := []) (ps := acc) (k := k) (l := ln p.1 (tx p.2)) (c := p.1) (r := p.2) (a5 := a5) (a6 := a6) (a7 := a7) hh (ln_let (col_of hc).1 (col_of hc).2.1 _) (by omega)
    rw [List.map_cons]
    refine Eq.trans (forL_nx (p := .tup [.int (k : Nat), .str (sl (ln p.1 (tx p.2)))]) (ps := enumL (k + 1) (ps.map fun p => .str (sl (ln p.1 (tx p.2))))) rfl st) ?_
    refine Eq.trans ih ?_
    simp
theorem read_picture {ps : List Pt} (h : PicOk ps) (e : Nat) : (env (e + 20)).p_read_picture [.str (sl (ptx ps))] = .ok (picv ps) := by
  have h1 : ∀ p ∈ ps, (p.1 = "red" ∨ p.1 = "blue" ∨ p.1 = "gold") ∧ (env (e + 19)).p_head_and_region [.str (sl (ln p.1 (tx p.2))), .dks [] []] = .ok (ptv p) := fun p m => by
    obtain ⟨hc, ok, hd⟩ := h.each p m
    have := dep_pos p.2
    have q := head_paint (col_of hc).1 (col_of hc).2.1 (rt_tx (.dks [] []) p.2 ok (by omega)) (by omega) (e + (12 - 3 * p.2.dep))
    rw [show e + (12 - 3 * p.2.dep) + (2 * p.2.dep + 2) + p.2.dep + 5 = e + 19 by omega] at q
    exact ⟨hc, q⟩
  show runB 8 (d_read_picture (env (e + 19))) _ = _
  rw [runB_fin]
  generalize env (e + 19) = E at *
  obtain ⟨b3, b4, b5, b6, b7, lp⟩ := read_loop E (text := .str (sl (ptx ps))) ps [] 0 (a3 := none) (a4 := none) (a5 := none) (a6 := none) (a7 := none) (by simpa using Nat.le_trans h.len (by omega)) h1
  have l_nl : ("\n" : Str) = sl [10] := by kernel_rfl
  have ll := ptx_len fun p m => ln_len (h.each p m).1 (h.each p m).2.1 (h.each p m).2.2
  have hl := h.len
  have l1 : (ptx ps).length ≤ 1000000 := by omega
  unfold picv
  by_cases z : ps = []
  · subst z
    have e0 : ptx [] = [] := rfl
    rw [e0] at *
    have lp : ∀ x, forL (.tup [3, 4]) (b_read_picture_0 E) (enumL 0 []) x = .nx x := fun x => rfl
    simp [d_read_picture, st0, lp]
  · have sp := pSplit_c 10 (ptx ps) (by unfold LIM; omega)
    have e1 : spl 10 (ptx ps) = lines ps := spl_inter (by simpa [lines] using z) fun l m => by
      obtain ⟨p, hp, rfl⟩ := List.mem_map.mp m
      exact ln_no (h.each p hp).1 (h.each p hp).2.1
    rw [e1] at sp
    have e2 : (lines ps).map (fun p => PV.str (sl p)) = ps.map fun p => .str (sl (ln p.1 (tx p.2))) := by simp [lines]
    rw [e2] at sp
    have pn := ptx_pos z
    simp [-pSplit_s, d_read_picture, st0, l1, pn, l_nl, sp, lp]
theorem lk_pic {ps : List Pt} (h : PicOk ps) : Lk 5 (picv ps) := by
  refine lk_tup (m := 4) (fun q m => ?_) (by have := h.len; simp; omega)
  obtain ⟨p, hp, rfl⟩ := List.mem_map.mp m
  refine lk_tup (m := 3) (fun q m => ?_) (by simp)
  simp only [List.mem_cons, List.mem_nil_iff, or_false] at m
  rcases m with rfl | rfl
  · exact (lk_str (col_of (h.each p hp).1).2.2.2).mono (by omega)
  · exact (lk_rg p.2).mono (by have := (h.each p hp).2.2; omega)
/-! ### drawn -/
theorem pic_loop (E : Env) (ns : List Int) (dr : ∀ c, IsSd ns c → ∃ r c', E.i_l_draw c [.int 3] = .ok (.int r) c' ∧ IsSd ns c' ∧ 0 ≤ r ∧ r < 3) (rg : ∀ c, IsSd ns c → ∃ (r : Rg) (c' : PV), E.i_l_region c [.int 2] = .ok r.pv c' ∧ IsSd ns c' ∧ r.Ok ∧ r.dep ≤ 2) :
    ∀ (ks : List PV) (acc : List Pt) (c : PV) (n a3 : Option SV), IsSd ns c → acc.length + ks.length ≤ 100 → (∀ p ∈ acc, (p.1 = "red" ∨ p.1 = "blue" ∨ p.1 = "gold") ∧ p.2.Ok ∧ p.2.dep ≤ 2) →
    ∃ (c' : PV) (ps : List Pt) (a3' : Option SV), IsSd ns c' ∧ ps.length = acc.length + ks.length ∧ (∀ p ∈ ps, (p.1 = "red" ∨ p.1 = "blue" ∨ p.1 = "gold") ∧ p.2.Ok ∧ p.2.dep ≤ 2) ∧
      forL (.one 3) (b_l_picture_0 E) ks [some (.inp c), n, some (.own (.lst (acc.map ptv))), a3] = .nx [some (.inp c'), n, some (.own (.lst (ps.map ptv))), a3']
  | [], acc, c, n, a3, hc, _, ha => ⟨c, acc, a3, hc, rfl, ha, rfl⟩
  | k :: ks, acc, c, n, a3, hc, hl, ha => by
    have hl : acc.length + (ks.length + 1) ≤ 100 := hl
    obtain ⟨i, c1, h1, s1, i0, i3⟩ := dr c hc
    obtain ⟨r, c2, h2, s2, ok, hd⟩ := rg c1 s1
    have pick : ∃ w : Str, (w = "red" ∨ w = "blue" ∨ w = "gold") ∧ atI [PV.str "red", .str "blue", .str "gold"] i = some (.str w) := by
      have : i = 0 ∨ i = 1 ∨ i = 2 := by omega
      rcases this with rfl | rfl | rfl
      · exact ⟨_, .inl rfl, rfl⟩
      · exact ⟨_, .inr (.inl rfl), rfl⟩
      · exact ⟨_, .inr (.inr rfl), rfl⟩
    obtain ⟨w, hw, hat⟩ := pick
    obtain ⟨c', ps, a3', q1, q2, q3, q4⟩ := pic_loop E ns dr rg ks (acc ++ [(w, r)]) c2 n (some (.val k)) s2 (by simp; omega) (by
      intro p m
      rcases List.mem_append.mp m with m | m
      · exact ha p m
      · simp at m
        subst m
        exact ⟨hw, ok, hd⟩)
    refine ⟨c', ps, a3', q1, by rw [q2]; simp; omega, q3, Eq.trans (forL_nx rfl ?_) q4⟩
    have l7 : acc.length < LIM := by unfold LIM; omega
    simp [b_l_picture_0, h1, hat, h2, l7, ptv]
theorem l_picture (ns : List Int) {c : PV} (hc : IsSd ns c) {n : Int} (h0 : 0 ≤ n) (h4 : n ≤ 4) (e : Nat) : ∃ ps c', (env (e + 5)).i_l_picture c [.int n] = .ok (picv ps) c' ∧ IsSd ns c' ∧ PicOk ps := by
  have dr : ∀ c, IsSd ns c → ∃ r c', (env (e + 4)).i_l_draw c [.int 3] = .ok (.int r) c' ∧ IsSd ns c' ∧ 0 ≤ r ∧ r < 3 := fun c hc => draw_ok ns hc (e + 3) (by omega) (by omega)
  have rg : ∀ c, IsSd ns c → ∃ (r : Rg) (c' : PV), (env (e + 4)).i_l_region c [.int 2] = .ok r.pv c' ∧ IsSd ns c' ∧ r.Ok ∧ r.dep ≤ 2 := fun c hc => region_ok ns 1 e hc
  have lr : (rangeL 0 n).length = n.toNat := by simp [rangeL]
  obtain ⟨c', ps, a3, q1, q2, q3, q4⟩ := pic_loop (env (e + 4)) ns dr rg (rangeL 0 n) [] c (some (.val (.int n))) none hc (by rw [lr]; simp; omega) (by simp)
  refine ⟨ps, c', ?_, q1, ⟨by rw [q2, lr]; simp; omega, q3⟩⟩
  have e0 : (env (e + 5)).i_l_picture = runI 4 (d_l_picture (env (e + 4))) := rfl
  rw [e0, runI_fin]
  generalize env (e + 4) = E at *
  have q4 : forL (.one 3) (b_l_picture_0 E) (rangeL 0 n) [some (.inp c), some (.val (.int n)), some (.own (.lst [])), none] = _ := q4
  have r2 : ∀ x y z, dRange1 (dCons (dVar 1) dNil) [x, some (.val (.int n)), y, z] = .ok (rangeL 0 n) [x, some (.val (.int n)), y, z] := fun x y z => rng_ok (by simp) h0 (by omega)
  simp [-e_rga, d_l_picture, stI, r2, q4, picv]
end Pl

set_option maxHeartbeats 4000000
/-! S9j: names. -/
namespace Pl
open PySem PySem.Spec PyProof.Rows L2
def lhead (N : Str) : List Nat := lt "let " ++ (lt N ++ lt " = ")
def lhB (N : Str) : Bool := (List.range (4 + (lt N).length)).all (fun j => (((lhead N).drop j).take 3 != lt " = ")) && (((lhead N).drop (4 + (lt N).length)).take 3 == lt " = ") && ((lhead N).take 4 == lt "let ")
structure NOk (N : Str) : Prop extends WOk N where
  col : ∀ e, (env (e + 1)).p_is_colour [.str N] = .ok (.bl true)
  isn : ∀ e, (env (e + 1)).p_is_name [.str N] = .ok (.bl true)
  pl : ∀ e p, (env (e + 1)).p_plain_in [.str N, .dks [.str N] [p]] = .ok p
  put0 : ∀ p, putDk (.dks [] []) (.str N) p = some (.dks [.str N] [p])
  put1 : ∀ p q, putDk (.dks [.str N] [q]) (.str N) p = some (.dks [.str N] [p])
  lh : lhB N = true
  so : PyData.strOk N = true
theorem N_spot : NOk "spot" := ⟨w_ok (by kernel_rfl), fun e => by kernel_rfl, fun e => by kernel_rfl, fun e p => by kernel_rfl, fun p => by kernel_rfl, fun p q => by kernel_rfl, by kernel_rfl, by kernel_rfl⟩
theorem N_x : NOk "x" := ⟨w_ok (by kernel_rfl), fun e => by kernel_rfl, fun e => by kernel_rfl, fun e p => by kernel_rfl, fun p => by kernel_rfl, fun p q => by kernel_rfl, by kernel_rfl, by kernel_rfl⟩
theorem N_red : NOk "red" := ⟨w_ok (by kernel_rfl), fun e => by kernel_rfl, fun e => by kernel_rfl, fun e p => by kernel_rfl, fun p => by kernel_rfl, fun p q => by kernel_rfl, by kernel_rfl, by kernel_rfl⟩
theorem let_len : (lt "let ").length = 4 := by kernel_rfl
theorem eq_len : (lt " = ").length = 3 := by kernel_rfl
theorem let_len' : (("let " : Str)).length = 4 := by kernel_rfl
theorem eq_len' : ((" = " : Str)).length = 3 := by kernel_rfl
theorem lhead_len (N : Str) : (lhead N).length = 7 + (lt N).length := by
  unfold lhead
  rw [List.length_append, List.length_append, let_len, eq_len]
  omega
theorem let_facts {N : Str} (h : NOk N) (t : List Nat) : Txt.startswith (sl (lhead N ++ t)) "let " = true ∧ inStr " = " (sl (lhead N ++ t)) = true ∧ Txt.index0 (sl (lhead N ++ t)) " = " = some (4 + (lt N).length) := by
  have g := h.lh
  unfold lhB at g
  simp only [Bool.and_eq_true] at g
  obtain ⟨⟨g1, g2⟩, g3⟩ := g
  have l := lhead_len N
  have tk : ∀ j, j + 3 ≤ (lhead N).length → ((lhead N ++ t).drop j).take 3 = ((lhead N).drop j).take 3 := fun j hj => by
    rw [List.drop_append_of_le_length (by omega), List.take_append_of_le_length (by rw [List.length_drop]; omega)]
  have e1 : ("let " : Str) = sl (lt "let ") := (sl_lt _).symm
  have e2 : (" = " : Str) = sl (lt " = ") := (sl_lt _).symm
  have hk : 4 + (lt N).length + (lt " = ").length ≤ (lhead N ++ t).length := by rw [List.length_append, l, eq_len]; omega
  have ht : ((lhead N ++ t).drop (4 + (lt N).length)).take (lt " = ").length = lt " = " := by
    rw [eq_len, tk _ (by omega)]
    exact beq_iff_eq.mp g2
  refine ⟨?_, ?_, ?_⟩
  · rw [e1, starts_sl, let_len, List.take_append_of_le_length (by omega), decide_eq_true (by rw [List.length_append]; omega)]
    simpa using g3
  · rw [e2]
    exact in_of hk ht
  · rw [e2]
    refine index_of hk ht fun j hj => ?_
    rw [eq_len, tk j (by omega)]
    have := List.all_eq_true.mp g1 j (List.mem_range.mpr hj)
    simpa using this
theorem cut_range {α : Type} (a b c : List α) : cutL (a ++ (b ++ c)) (some (a.length : Int)) (some ((a.length + b.length : Nat) : Int)) = b := by
  unfold cutL
  rw [HT.sIx_nat, HT.sIx_nat]
  simp
theorem head_let {N : Str} (hN : NOk N) {m : Nat} {names : PV} {t : List Nat} {r : Rg} (h : Rt m names t r) (hm : 1 ≤ m) (e : Nat) : (env (e + m + r.dep + 5)).p_head_and_region [.str (sl (lhead N ++ t)), names] = .ok (.tup [.str N, r.pv]) := by
  have h1 := good_ok h e hm
  have h2 := hN.col (e + m + r.dep + 3)
  rw [show e + m + r.dep + 3 + 1 = e + m + r.dep + 4 by omega] at h2
  show runB 5 (d_head_and_region (env (e + m + r.dep + 4))) _ = _
  rw [runB_fin]
  generalize env (e + m + r.dep + 4) = E at *
  obtain ⟨f1, f2, f3⟩ := let_facts hN t
  have hl := h.tx.len
  have l := lhead_len N
  have nl := hN.len
  have ix : pIndex (.str (sl (lhead N ++ t))) (.str " = ") = some (.int ((4 + (lt N).length : Nat) : Int)) := by
    show (Txt.index0 _ _).map _ = _
    rw [f3]
    rfl
  have lm : (lhead N ++ t).length ≤ LIM := by rw [List.length_append]; unfold LIM; omega
  have s1 : pSl (.str (sl (lhead N ++ t))) (some 4) (some ((4 + (lt N).length : Nat) : Int)) = some (.str N) := by
    rw [pSl_sl _ _ _ lm]
    have := cut_range (lt "let ") (lt N) (lt " = " ++ t)
    rw [let_len] at this
    have e0 : lhead N ++ t = lt "let " ++ (lt N ++ (lt " = " ++ t)) := by simp [lhead]
    have this : cutL (lt "let " ++ (lt N ++ (lt " = " ++ t))) (some 4) (some ((4 + (lt N).length : Nat) : Int)) = lt N := this
    rw [e0, this, sl_lt]
  have s2 : pSl (.str (sl (lhead N ++ t))) (some (((4 + (lt N).length : Nat) : Int) + 3)) none = some (.str (sl t)) := by
    rw [pSl_sl _ _ _ lm]
    have := cut_from (lhead N) t
    rw [l] at this
    rw [show (((4 + (lt N).length : Nat) : Int) + 3) = ((7 + (lt N).length : Nat) : Int) by omega, this]
  generalize ((4 + (lt N).length : Nat) : Int) = k at *
  generalize lhead N ++ t = L at *
  have n4 : (4 : Nat) ≤ LIM := by unfold LIM; omega
  have n3 : (3 : Nat) ≤ LIM := by unfold LIM; omega
  simp [d_head_and_region, st0, f1, f2, ix, fLen, let_len', eq_len', n4, n3, s1, s2, h2, h1]
theorem let_step (E : Env) {text : PV} {N : Str} {vs vs' ps sk sk' : List PV} {k : Nat} {l : List Nat} {r : Rg} {a5 a6 a7 : Option SV} (hh : E.p_head_and_region [.str (sl l), .dks sk vs] = .ok (.tup [.str N, r.pv])) (hs : Txt.startswith (sl l) "let " = true) (hi : inStr " = " (sl l) = true)
    (hn : E.p_is_name [.str N] = .ok (.bl true)) (hp : putDk (.dks sk vs) (.str N) r.pv = some (.dks sk' vs')) :
    b_read_picture_0 E [some (.val text), some (.own (.dks sk vs)), some (.own (.lst ps)), some (.val (.int k)), some (.val (.str (sl l))), a5, a6, a7] =
      .nx [some (.val text), some (.own (.dks sk' vs')), some (.own (.lst ps)), some (.val (.int k)), some (.val (.str (sl l))), some (.val (.str N)), some (.val r.pv), some (.val (.bl true))] := by
  have n3 : noD (.tup [.str N, r.pv]) = true := by
    show (true && (noD r.pv && true)) = true
    rw [rg_noD]
    rfl
  simp [b_read_picture_0, hh, n3, hs, hi, pv_isN r, hn, hp]
end Pl

set_option maxHeartbeats 4000000
/-! S9k: the law's picture with names; the law. -/
namespace Pl
open PySem PySem.Spec PyProof.Rows L2
section
variable {N : Str} (hN : NOk N) {R : Rg} (ok : R.Ok) (hd : R.dep ≤ 4)
abbrev dk (N : Str) (r : Rg) : PV := .dks [.str N] [r.pv]
include hN in
theorem n_tx {n : Nat} (hn : 40 ≤ n) : TxOk (lt N) n := ⟨hN.asc, fun c m => (hN.no c m).2.2.2.2, hN.pos, by have := hN.len; omega⟩
include hN in
theorem n_wk {B d : Int} (h0 : 0 ≤ d) (hB : d ≤ B) : Wk B d (lt N) d := Wk.plain h0 hB (fun c m => ⟨(hN.no c m).2.1, (hN.no c m).2.2.1⟩) (.inr fun c m => (hN.no c m).2.2.2.1)
include hN in
theorem n_ri (r : Rg) : RI 2 (dk N r) (lt N) r := ri_flat (m := 1) (fun m => (hN.no 40 m).2.1 rfl) (by have := hN.len; omega) fun e => by
  rw [sl_lt]
  exact hN.pl e r.pv
include hN ok hd in
theorem n_rt : Rt 2 (dk N R) (lt N) R := ⟨n_ri hN R, n_wk hN (by omega) (by omega), n_tx hN (by omega), ok, by omega⟩
include hN ok hd in
theorem n_not : Rt 3 (dk N R) (lt "not" ++ 40 :: (lt N ++ [41])) (.not R) := by
  have nl := hN.len
  exact ⟨ri_one (B := 8) T_not.toInOk (n_ri hN R) (n_wk hN (by omega) (by omega)) hN.asc (by omega) (by omega) rfl (by omega),
    Wk.br (by omega) (by omega) (fun c m => ⟨(W_not.no c m).2.1, (W_not.no c m).2.2.1, (W_not.no c m).2.2.2.1⟩) (n_wk hN (by omega) (by omega)), (n_tx hN (n := 40) (by omega)).br W_not (by omega), ok, by simp only [Rg.dep]; omega⟩
def aft (R : Rg) : Rg := .or R (.rows 0 1)
theorem sm01 : ∀ a ∈ [(0 : Int), 1], small a := sm2 ⟨by omega, by omega⟩ ⟨by omega, by omega⟩
include hN ok hd in
theorem n_or : Rt 5 (dk N R) (lt "or" ++ 40 :: (lt N ++ 44 :: 32 :: txw "rows" [0, 1] ++ [41])) (aft R) := by
  have nl := hN.len
  have rl := txw_len W_rows sm01
  exact ⟨ri_two (m := 4) (B := 8) (x := R) (y := .rows 0 1) T_or.toInOk ((n_ri hN R).mono (by omega)) (rt_leaf W_rows (by kernel_rfl) sm01 (by simp) rfl _ (by omega)) (n_wk hN (by omega) (by omega)) (txw_wk W_rows sm01 (by omega) (by omega)) hN.asc (fun c m => (txw_no W_rows sm01 c m).2) (by simp at rl; omega) (by omega) (by simp [Rg.dep]) rfl (by omega),
    Wk.br (by omega) (by omega) (fun c m => ⟨(W_or.no c m).2.1, (W_or.no c m).2.2.1, (W_or.no c m).2.2.2.1⟩) (Wk.two (by omega) (by omega) (n_wk hN (by omega) (by omega)) (txw_wk W_rows sm01 (by omega) (by omega))), ((n_tx hN (n := 40) (by omega)).two (txw_ok W_rows sm01 (by simp) (n := 40) (by omega)) (k := 100) (by omega)).br W_or (by omega), ⟨ok, ⟨by omega, by omega⟩, by omega, by omega⟩, by simp only [aft, Rg.dep]; omega⟩
include hN in
theorem n_mv {r : Rg} (ok : r.Ok) (hd : r.dep ≤ 5) : Rt 4 (dk N r) (lt "move" ++ 40 :: (((nm 1 ++ 32 :: nm (-1)) ++ 44 :: 32 :: lt N) ++ [41])) (.move 1 (-1) r) := by
  have nl := hN.len
  have s1 : small 1 := ⟨by omega, by omega⟩
  have s2 : small (-1) := ⟨by omega, by omega⟩
  have w := num_no s1 s2
  exact ⟨ri_move (B := 8) s1 s2 (n_ri hN r) (n_wk hN (by omega) (by omega)) hN.asc (by omega) (by omega) (by omega),
    Wk.br (by omega) (by omega) (fun c m => ⟨(W_move.no c m).2.1, (W_move.no c m).2.2.1, (W_move.no c m).2.2.2.1⟩) (Wk.two (by omega) (by omega) (Wk.plain (by omega) (by omega) (fun c m => ⟨(w c m).1, (w c m).2.1⟩) (.inl (by omega))) (n_wk hN (by omega) (by omega))), ((num_tx s1 s2).two (n_tx hN (n := 40) (by omega)) (k := 100) (by omega)).br W_move (by omega), ⟨by omega, by omega, ok⟩, by simp only [Rg.dep]; omega⟩
/-- the five lines -/
def five (N : Str) (R : Rg) : List (List Nat) := [lhead N ++ tx R, ln "red" (lt N), ln "blue" (lt "not" ++ 40 :: (lt N ++ [41])), lhead N ++ (lt "or" ++ 40 :: (lt N ++ 44 :: 32 :: txw "rows" [0, 1] ++ [41])), ln "gold" (lt "move" ++ 40 :: (((nm 1 ++ 32 :: nm (-1)) ++ 44 :: 32 :: lt N) ++ [41]))]
def due (R : Rg) : PV := .tup [.tup [.str "red", R.pv], .tup [.str "blue", (Rg.not R).pv], .tup [.str "gold", (Rg.move 1 (-1) (aft R)).pv]]
theorem nl_ln {c : Str} (hc : ColOk c) {t : List Nat} (h : ∀ c ∈ t, c ≠ 10) : 10 ∉ ln c t := by
  intro m
  unfold ln at m
  simp only [List.mem_append, List.mem_cons] at m
  rcases m with m | m | m
  · exact (hc.no 10 m).2.2.2.2 rfl
  · cases m
  · exact h 10 m rfl
include hN in
theorem nl_let {t : List Nat} (h : ∀ c ∈ t, c ≠ 10) : 10 ∉ lhead N ++ t := by
  intro m
  unfold lhead at m
  simp only [List.mem_append] at m
  rcases m with (m | m | m) | m
  · exact absurd m (by decide +kernel)
  · exact (hN.no 10 m).2.2.2.2 rfl
  · exact absurd m (by decide +kernel)
  · exact h 10 m rfl
include hN ok hd in
theorem read_five (e : Nat) : (env (e + 40)).p_read_picture [.str (sl (List.intercalate [10] (five N R)))] = .ok (due R) := by
  have dp := dep_pos R
  have rt := rt_tx (.dks [] []) R ok (by omega)
  have h1 := head_let hN rt (by omega) (e + (39 - (3 * R.dep + 7)))
  rw [show e + (39 - (3 * R.dep + 7)) + (2 * R.dep + 2) + R.dep + 5 = e + 39 by omega] at h1
  have h2 := head_paint C_red (by decide +kernel) (n_rt hN ok hd) (by omega) (e + (39 - (R.dep + 7)))
  rw [show e + (39 - (R.dep + 7)) + 2 + R.dep + 5 = e + 39 by omega] at h2
  have h3 := head_paint C_blue (by decide +kernel) (n_not hN ok hd) (by omega) (e + (39 - (R.dep + 9)))
  rw [show e + (39 - (R.dep + 9)) + 3 + (Rg.not R).dep + 5 = e + 39 by simp only [Rg.dep]; omega] at h3
  have h4 := head_let hN (n_or hN ok hd) (by omega) (e + (39 - ((aft R).dep + 10)))
  have da : (aft R).dep = R.dep + 1 := by
    unfold aft
    simp only [Rg.dep]
    omega
  rw [show e + (39 - ((aft R).dep + 10)) + 5 + (aft R).dep + 5 = e + 39 by omega] at h4
  have oka : (aft R).Ok := ⟨ok, ⟨by omega, by omega⟩, by omega, by omega⟩
  have h5 := head_paint C_gold (by decide +kernel) (n_mv hN oka (by omega)) (by omega) (e + (39 - ((aft R).dep + 10)))
  rw [show e + (39 - ((aft R).dep + 10)) + 4 + (Rg.move 1 (-1) (aft R)).dep + 5 = e + 39 by simp only [Rg.dep]; omega] at h5
  have isn := hN.isn (e + 38)
  rw [show e + 38 + 1 = e + 39 from rfl] at isn
  show runB 8 (d_read_picture (env (e + 39))) _ = _
  rw [runB_fin]
  generalize env (e + 39) = E at *
  have no : ∀ l ∈ five N R, 10 ∉ l := by
    intro l m
    simp only [five, List.mem_cons, List.mem_nil_iff, or_false] at m
    rcases m with rfl | rfl | rfl | rfl | rfl
    · exact nl_let hN rt.tx.nl
    · exact nl_ln C_red (n_rt hN ok hd).tx.nl
    · exact nl_ln C_blue (n_not hN ok hd).tx.nl
    · exact nl_let hN (n_or hN ok hd).tx.nl
    · exact nl_ln C_gold (n_mv hN oka (by omega)).tx.nl
  have ls : (List.intercalate [10] (five N R)).length ≤ 3000 := by
    have a1 := tx_len ok (by omega)
    have a2 := hN.len
    have a3 := lhead_len N
    have a4 := (nm_ok (a := 1) ⟨by omega, by omega⟩).len
    have a5 := (nm_ok (a := -1) ⟨by omega, by omega⟩).len
    have a6 := txw_len W_rows sm01
    have a7 : (lt "red").length = 3 := by kernel_rfl
    have a8 : (lt "blue").length = 4 := by kernel_rfl
    have a9 : (lt "gold").length = 4 := by kernel_rfl
    have b1 := W_not.len
    have b2 := W_or.len
    have b3 := W_move.len
    simp [five, List.intercalate, ln] at *
    omega
  have sp := pSplit_c 10 (List.intercalate [10] (five N R)) (by unfold LIM; omega)
  rw [spl_inter (by simp [five]) no] at sp
  have pn : List.intercalate [10] (five N R) ≠ [] := by simp [five, List.intercalate, ln]
  have l1 : (List.intercalate [10] (five N R)).length ≤ 1000000 := by omega
  have l_nl : ("\n" : Str) = sl [10] := by kernel_rfl
  generalize hT : List.intercalate [10] (five N R) = T at *
  obtain ⟨s1, s2, _⟩ := let_facts hN (tx R)
  obtain ⟨s3, s4, _⟩ := let_facts hN (lt "or" ++ 40 :: (lt N ++ 44 :: 32 :: txw "rows" [0, 1] ++ [41]))
  have lp : ∃ b3 b4 b5 b6 b7 nms, forL (.tup [3, 4]) (b_read_picture_0 E) (enumL 0 ((five N R).map fun p => .str (sl p))) [some (.val (.str (sl T))), some (.own (.dks [] [])), some (.own (.lst [])), none, none, none, none, none] =
      .nx [some (.val (.str (sl T))), some (.own nms), some (.own (.lst [.tup [.str "red", R.pv], .tup [.str "blue", (Rg.not R).pv], .tup [.str "gold", (Rg.move 1 (-1) (aft R)).pv]])), b3, b4, b5, b6, b7] := by
    refine ⟨some (.val (.int (4 : Nat))), some (.val (.str (sl (ln "gold" (lt "move" ++ 40 :: (((nm 1 ++ 32 :: nm (-1)) ++ 44 :: 32 :: lt N) ++ [41])))))), some (.val (.str "gold")), some (.val (Rg.move 1 (-1) (aft R)).pv), some (.val (.bl false)), dk N (aft R), ?_⟩
    refine Eq.trans (forL_nx rfl (let_step E (text := .str (sl T)) (ps := []) (k := 0) h1 s1 s2 isn (hN.put0 R.pv))) ?_
    refine Eq.trans (forL_nx rfl (paint_step E (text := .str (sl T)) (ps := []) (k := 1) h2 (ln_let C_red (by decide +kernel) _) (by simp))) ?_
    refine Eq.trans (forL_nx rfl (paint_step E (text := .str (sl T)) (ps := [.tup [.str "red", R.pv]]) (k := 2) h3 (ln_let C_blue (by decide +kernel) _) (by simp))) ?_
    refine Eq.trans (forL_nx rfl (let_step E (text := .str (sl T)) (k := 3) h4 s3 s4 isn (hN.put1 (aft R).pv R.pv))) ?_
    refine Eq.trans (forL_nx rfl (paint_step E (text := .str (sl T)) (k := 4) h5 (ln_let C_gold (by decide +kernel) _) (by simp))) ?_
    rfl
  obtain ⟨b3, b4, b5, b6, b7, nms, lp⟩ := lp
  unfold due
  generalize ((five N R).map fun p => PV.str (sl p)) = LL at *
  simp [-pSplit_s, d_read_picture, st0, l1, pn, l_nl, sp, lp]
end
end Pl

set_option maxHeartbeats 4000000
/-! S9l: the law. -/
namespace Pl
open PySem PySem.Spec PyProof.Rows L2
theorem lay_pt {p : Pt} (hc : p.1 = "red" ∨ p.1 = "blue" ∨ p.1 = "gold") : PyData.strOk p.1 = true := (col_of hc).2.2.2
theorem lk_due {R : Rg} (hd : R.dep ≤ 4) : Lk 10 (due R) := by
  have r1 : Lk 8 R.pv := (lk_rg R).mono (by omega)
  have r2 : Lk 8 (Rg.not R).pv := (lk_rg (.not R)).mono (by simp only [Rg.dep]; omega)
  have r3 : Lk 8 (Rg.move 1 (-1) (aft R)).pv := (lk_rg _).mono (by unfold aft; simp only [Rg.dep]; omega)
  have st : ∀ {c : Str} {p : PV}, PyData.strOk c = true → Lk 8 p → Lk 9 (.tup [.str c, p]) := fun hc h => lk_tup (m := 8) (fun q m => by
    simp only [List.mem_cons, List.mem_nil_iff, or_false] at m
    rcases m with rfl | rfl
    · exact (lk_str hc).mono (by omega)
    · exact h) (by simp)
  refine lk_tup (m := 9) (fun q m => ?_) (by simp)
  simp only [List.mem_cons, List.mem_nil_iff, or_false] at m
  rcases m with rfl | rfl | rfl
  · exact st (by kernel_rfl) r1
  · exact st (by kernel_rfl) r2
  · exact st (by kernel_rfl) r3
theorem pick_name {i : Int} (h0 : 0 ≤ i) (h3 : i < 3) : ∃ N : Str, NOk N ∧ atI [PV.str "spot", .str "x", .str "red"] i = some (.str N) := by
  have : i = 0 ∨ i = 1 ∨ i = 2 := by omega
  rcases this with rfl | rfl | rfl
  · exact ⟨_, N_spot, rfl⟩
  · exact ⟨_, N_x, rfl⟩
  · exact ⟨_, N_red, rfl⟩
theorem addL {a : Str} {b : List Nat} (h : (lt a).length + b.length ≤ 16000000) : pAdd (.str a) (.str (sl b)) = some (.str (sl (lt a ++ b))) := by
  have := addS (a := lt a) (b := b) h
  rwa [sl_lt] at this
theorem addR {a : List Nat} {b : Str} (h : a.length + (lt b).length ≤ 16000000) : pAdd (.str (sl a)) (.str b) = some (.str (sl (a ++ lt b))) := by
  have := addS (a := a) (b := lt b) h
  rwa [sl_lt] at this
theorem addLR {a b : Str} (h : (lt a).length + (lt b).length ≤ 16000000) : pAdd (.str a) (.str b) = some (.str (sl (lt a ++ lt b))) := by
  have := addS (a := lt a) (b := lt b) h
  rwa [sl_lt, sl_lt] at this
theorem five_join {N : Str} {R : Rg} (hN : NOk N) (ok : R.Ok) (hd : R.dep ≤ 4) : pJoin (.str "\n") (.lst ((five N R).map fun p => .str (sl p))) = some (.str (sl (List.intercalate [10] (five N R)))) := by
  have a1 := tx_len ok (by omega)
  have a2 := hN.len
  have a3 := lhead_len N
  have a4 := (nm_ok (a := 1) ⟨by omega, by omega⟩).len
  have a5 := (nm_ok (a := -1) ⟨by omega, by omega⟩).len
  have a6 := txw_len W_rows sm01
  have a7 : (lt "red").length = 3 := by kernel_rfl
  have a8 : (lt "blue").length = 4 := by kernel_rfl
  have a9 : (lt "gold").length = 4 := by kernel_rfl
  have b1 := W_not.len
  have b2 := W_or.len
  have b3 := W_move.len
  have j := pJoin_l "\n" ((five N R).map sl) (by
    rw [show (("\n" : Str)).length = 1 by kernel_rfl]
    unfold LIM
    simp [five, ln] at *
    omega)
  have e : Txt.join "\n" ((five N R).map sl) = sl (List.intercalate [10] (five N R)) := by
    apply str_ext
    rw [lt_join, lt_sl, show lt "\n" = [10] by kernel_rfl, List.map_map]
    simp [Function.comp_def]
  rw [e, List.map_map] at j
  exact j
theorem law_ok (ns : List Int) : (env 61).p_law_k09 [.scr ns] = .ok (.bl true) := by
  have hb : (env 60).o_l_begin [.scr ns] = some (Sd ns 0 0 7) := by kernel_rfl
  have dr : ∀ c, IsSd ns c → ∀ size : Int, 0 < size → size < 1000 → ∃ r c', (env 60).i_l_draw c [.int size] = .ok (.int r) c' ∧ IsSd ns c' ∧ 0 ≤ r ∧ r < size := fun c hc size h1 h2 => draw_ok ns hc 59 h1 h2
  obtain ⟨R, c1, h1, i1, ok, hd⟩ := region_ok ns 3 54 (c := Sd ns 0 0 7) ⟨0, 0, 7, by omega, rfl⟩
  have h1 : (env 60).i_l_region (Sd ns 0 0 7) [.int 4] = .ok R.pv c1 := h1
  have hd : R.dep ≤ 4 := hd
  have dp := dep_pos R
  have t1 := ((ti_tx R ok (by omega)).mono (n := 60) (by omega) 0).1
  rw [show 0 + 60 = 60 from rfl] at t1
  have w1 := write_ok R ok (by omega) (55 - R.dep)
  rw [show 55 - R.dep + R.dep + 5 = 60 by omega] at w1
  have rd := check_pic (53 - 3 * R.dep) (rt_tx (.dks [] []) R ok (by omega)) (by omega)
  rw [show 53 - 3 * R.dep + (2 * R.dep + 2) + R.dep + 5 = 60 by omega] at rd
  have k1 := (lk_rg R).mono (n := 60) (by omega) 0
  rw [show 0 + 60 = 60 from rfl] at k1
  obtain ⟨n, c2, h2, i2, l2, u2⟩ := dr c1 i1 5 (by omega) (by omega)
  obtain ⟨ps, c3, h3, i3, po⟩ := l_picture ns i2 l2 (by omega) 55
  obtain ⟨i, c4, h4, i4, l4, u4⟩ := dr c3 i3 3 (by omega) (by omega)
  obtain ⟨N, hN, hat⟩ := pick_name l4 u4
  have w2 := write_picture po 51
  have r2 := read_picture po 40
  have k2 := (lk_pic po).mono (n := 60) (by omega) 0
  rw [show 0 + 60 = 60 from rfl] at k2
  have r3 := read_five hN ok hd 20
  have k3 := (lk_due hd).mono (n := 60) (by omega) 0
  rw [show 0 + 60 = 60 from rfl] at k3
  have tt := fun p hp => ((ti_tx p.2 (po.each p hp).2.1 (by have := (po.each p hp).2.2; omega)).mono (n := 60) (by have := (po.each p hp).2.2; omega) 0).1
  have h3 : (env 60).i_l_picture c2 [.int n] = .ok (picv ps) c3 := h3
  have w2 : (env 60).p_write_picture [picv ps] = .ok (.str (sl (ptx ps))) := w2
  have r2 : (env 60).p_read_picture [.str (sl (ptx ps))] = .ok (picv ps) := r2
  have r3 : (env 60).p_read_picture [.str (sl (List.intercalate [10] (five N R)))] = .ok (due R) := r3
  have tt : ∀ p ∈ ps, (env 60).p_l_text [p.2.pv] = .ok (.str (sl (tx p.2))) := tt
  have lps := po.len
  have s1 : PyData.strOk (sl (tx R)) = true := asc_ok (tx_ok R ok).asc
  have sln : ∀ p ∈ ps, Asc (ln p.1 (tx p.2)) := fun p hp => ((col_of (po.each p hp).1).1.asc).app (.cons (by decide) (tx_ok p.2 (po.each p hp).2.1).asc)
  have s2 : PyData.strOk (sl (ptx ps)) = true := by
    refine asc_ok fun x hx => ?_
    have : ∀ ps : List Pt, (∀ p ∈ ps, Asc (ln p.1 (tx p.2))) → Asc (ptx ps) := by
      intro ps
      induction ps with
      | nil => intro _ x m; cases m
      | cons a ps ih =>
        intro h
        cases ps with
        | nil => simpa [ptx, lines, List.intercalate] using h a List.mem_cons_self
        | cons b ps =>
          have e : ptx (a :: b :: ps) = ln a.1 (tx a.2) ++ 10 :: ptx (b :: ps) := by simp [ptx, lines, List.intercalate]
          rw [e]
          exact (h a List.mem_cons_self).app (.cons (by decide) (ih fun p m => h p (List.mem_cons_of_mem _ m)))
    exact this ps sln x hx
  have ne1 : pNe (.str (sl (tx R))) (.str (sl (tx R))) = some (.bl false) := by rw [pNe_str s1 s1]; simp
  have ne2 : pNe (.str (sl (ptx ps))) (.str (sl (ptx ps))) = some (.bl false) := by rw [pNe_str s2 s2]; simp
  have j2 := pjoin_lines po
  have j3 := five_join hN ok hd
  show runB 14 (d_law_k09 (env 60)) _ = _
  rw [runB_fin]
  generalize env 60 = E at *
  suffices h : ∃ ρ, d_law_k09 E (st0 14 [.scr ns]) = .rt (.bl true) ρ by
    obtain ⟨ρ, h⟩ := h
    rw [h]
    rfl
  have z1 : ∀ (d t : DS) (a b : Rho), d a = .nx b → (∃ ρ, t b = .rt (.bl true) ρ) → ∃ ρ, sSeq d t a = .rt (.bl true) ρ := fun d t a b h ⟨ρ, g⟩ => ⟨ρ, Eq.trans (seq_nx h) g⟩
  have a1 := tx_len ok (by omega)
  have a2 := hN.len
  have ll : ps.length ≤ LIM := by unfold LIM; omega
  generalize hP : picv ps = P at *
  generalize hRV : R.pv = RV at *
  let S (x1 x2 x3 x4 x5 x6 x7 x8 x9 x10 x11 : Option SV) : Rho := [some (.val (.scr ns)), x1, x2, x3, x4, x5, x6, x7, x8, x9, x10, x11, none, none]
  refine z1 _ _ _ (S (some (.own (Sd ns 0 0 7))) none none none none none none none none none none) (by simp [st0, s0_law_k09, hb, S]) ?_
  refine z1 _ _ _ (S (some (.own c1)) (some (.val RV)) none none none none none none none none none) (by simp [s1_law_k09, h1, S]) ?_
  refine z1 _ _ _ (S (some (.own c1)) (some (.val RV)) (some (.val (.str (sl (tx R))))) none none none none none none none none) (by simp [s2_law_k09, t1, S]) ?_
  refine z1 _ _ _ (S (some (.own c1)) (some (.val RV)) (some (.val (.str (sl (tx R))))) none none none none none none none none) (by simp [s3_law_k09, w1, ne1, rd, k1, S]) ?_
  refine z1 _ _ _ (S (some (.own c3)) (some (.val RV)) (some (.val (.str (sl (tx R))))) (some (.val P)) none none none none none none none) (by simp [s4_law_k09, h2, h3, S]) ?_
  refine z1 _ _ _ (S (some (.own c3)) (some (.val RV)) (some (.val (.str (sl (tx R))))) (some (.val P)) (some (.val (.lst (ps.map fun p => .str (sl (ln p.1 (tx p.2))))))) none none none none none none) ?_ ?_
  · subst hP
    unfold picv
    have c := compL_map (g := .tup [12, 13]) (body := c_law_k09_0 E) (ρ := [some (.val (.scr ns)), none, some (.val RV), some (.val (.str (sl (tx R)))), some (.val (.tup (ps.map ptv))), none, none, none, none, none, none, none, none, none]) (f := ptv) (y := fun p => .str (sl (ln p.1 (tx p.2)))) ps fun p m => ⟨_, rfl, [some (.val (.scr ns)), none, some (.val RV), some (.val (.str (sl (tx R)))), some (.val (.tup (ps.map ptv))), none, none, none, none, none, none, none, some (.val (.str p.1)), some (.val p.2.pv)], by
      have l := ln_len (po.each p m).1 (po.each p m).2.1 (po.each p m).2.2
      unfold ln at l
      rw [List.length_append, List.length_cons] at l
      have p1 : pAdd (.str p.1) (.str (sl [32])) = some (.str (sl (lt p.1 ++ [32]))) := addL (by simp; omega)
      have p2 : pAdd (.str (sl (lt p.1 ++ [32]))) (.str (sl (tx p.2))) = some (.str (sl (ln p.1 (tx p.2)))) := by
        rw [addS (by simp; omega)]
        simp [ln]
      simp [-pAdd_s, l_blank, p1, tt p m, p2]⟩
    simp [s5_law_k09, valsOf, wipeR, c, ll, S]
  refine z1 _ _ _ (S (some (.own c3)) (some (.val RV)) (some (.val (.str (sl (tx R))))) (some (.val P)) (some (.val (.lst (ps.map fun p => .str (sl (ln p.1 (tx p.2))))))) (some (.val (.str (sl (ptx ps))))) none none none none none) (by simp [s6_law_k09, j2, S]) ?_
  refine z1 _ _ _ (S (some (.own c3)) (some (.val RV)) (some (.val (.str (sl (tx R))))) (some (.val P)) (some (.val (.lst (ps.map fun p => .str (sl (ln p.1 (tx p.2))))))) (some (.val (.str (sl (ptx ps))))) none none none none none) (by simp [s7_law_k09, w2, ne2, r2, k2, S]) ?_
  generalize (PV.lst (ps.map fun p => PV.str (sl (ln p.1 (tx p.2))))) = X5
  refine z1 _ _ _ (S (some (.own c4)) (some (.val RV)) (some (.val (.str (sl (tx R))))) (some (.val P)) (some (.val X5)) (some (.val (.str (sl (ptx ps))))) (some (.val (.str N))) none none none none) (by simp [s8_law_k09, h4, hat, S]) ?_
  have q1 : pAdd (.str "let ") (.str N) = some (.str (sl (lt "let " ++ lt N))) := addLR (by rw [let_len]; omega)
  have q2 : pAdd (.str (sl (lt "let " ++ lt N))) (.str " = ") = some (.str (sl (lhead N))) := by
    rw [addR (by rw [List.length_append, let_len, eq_len]; omega)]
    simp [lhead]
  refine z1 _ _ _ (S (some (.own c4)) (some (.val RV)) (some (.val (.str (sl (tx R))))) (some (.val P)) (some (.val X5)) (some (.val (.str (sl (ptx ps))))) (some (.val (.str N))) (some (.val (.str (sl (lhead N))))) none none none) (by simp [-pAdd_s, s9_law_k09, q1, q2, S]) ?_
  have hl := lhead_len N
  have q3 : pAdd (.str (sl (lhead N))) (.str (sl (tx R))) = some (.str (sl (lhead N ++ tx R))) := addS (by omega)
  have q4 : pAdd (.str "red ") (.str N) = some (.str (sl (ln "red" (lt N)))) := by
    have e : lt "red " = lt "red" ++ [32] := by kernel_rfl
    rw [addLR (by rw [show (lt "red ").length = 4 by kernel_rfl]; omega), e]
    simp [ln]
  have q5 : pAdd (.str "blue not(") (.str N) = some (.str (sl (lt "blue not(" ++ lt N))) := addLR (by rw [show (lt "blue not(").length = 9 by kernel_rfl]; omega)
  have q6 : pAdd (.str (sl (lt "blue not(" ++ lt N))) (.str ")") = some (.str (sl (ln "blue" (lt "not" ++ 40 :: (lt N ++ [41]))))) := by
    have e : lt "blue not(" = lt "blue" ++ 32 :: (lt "not" ++ [40]) := by kernel_rfl
    rw [l_par, addS (by rw [List.length_append, show (lt "blue not(").length = 9 by kernel_rfl]; simp; omega), e]
    simp [ln]
  refine z1 _ _ _ (S (some (.own c4)) (some (.val RV)) (some (.val (.str (sl (tx R))))) (some (.val P)) (some (.val X5)) (some (.val (.str (sl (ptx ps))))) (some (.val (.str N))) (some (.val (.str (sl (lhead N))))) (some (.val (.lst [.str (sl (lhead N ++ tx R)), .str (sl (ln "red" (lt N))), .str (sl (ln "blue" (lt "not" ++ 40 :: (lt N ++ [41]))))]))) none none) (by simp [-pAdd_s, s10_law_k09, t1, q3, q4, q5, q6, S]) ?_
  have q7 : pAdd (.str (sl (lhead N))) (.str "or(") = some (.str (sl (lhead N ++ lt "or("))) := addR (by rw [show (lt "or(").length = 3 by kernel_rfl]; omega)
  have q8 : pAdd (.str (sl (lhead N ++ lt "or("))) (.str N) = some (.str (sl (lhead N ++ (lt "or(" ++ lt N)))) := by
    rw [← List.append_assoc]
    exact addR (by rw [List.length_append, show (lt "or(").length = 3 by kernel_rfl]; omega)
  have q9 : pAdd (.str (sl (lhead N ++ (lt "or(" ++ lt N)))) (.str ", rows 0 1)") = some (.str (sl (lhead N ++ (lt "or" ++ 40 :: (lt N ++ 44 :: 32 :: txw "rows" [0, 1] ++ [41]))))) := by
    have e1 : lt "or(" = lt "or" ++ [40] := by kernel_rfl
    have e2 : lt ", rows 0 1)" = 44 :: 32 :: (txw "rows" [0, 1] ++ [41]) := by kernel_rfl
    rw [addR (by rw [List.length_append, List.length_append, show (lt "or(").length = 3 by kernel_rfl, show (lt ", rows 0 1)").length = 11 by kernel_rfl]; omega), e1, e2]
    simp
  have q10 : pAdd (.str "gold move(1 -1, ") (.str N) = some (.str (sl (lt "gold move(1 -1, " ++ lt N))) := addLR (by rw [show (lt "gold move(1 -1, ").length = 16 by kernel_rfl]; omega)
  have q11 : pAdd (.str (sl (lt "gold move(1 -1, " ++ lt N))) (.str ")") = some (.str (sl (ln "gold" (lt "move" ++ 40 :: (((nm 1 ++ 32 :: nm (-1)) ++ 44 :: 32 :: lt N) ++ [41]))))) := by
    have e : lt "gold move(1 -1, " = lt "gold" ++ 32 :: (lt "move" ++ 40 :: ((nm 1 ++ 32 :: nm (-1)) ++ 44 :: 32 :: [])) := by kernel_rfl
    rw [l_par, addS (by rw [List.length_append, show (lt "gold move(1 -1, ").length = 16 by kernel_rfl]; simp; omega), e]
    simp [ln]
  have q12 : ∀ a b c d e : PV, pAdd (.lst [a, b, c]) (.lst [d, e]) = some (.lst [a, b, c, d, e]) := fun a b c d e => by kernel_rfl
  refine z1 _ _ _ (S (some (.own c4)) (some (.val RV)) (some (.val (.str (sl (tx R))))) (some (.val P)) (some (.val X5)) (some (.val (.str (sl (ptx ps))))) (some (.val (.str N))) (some (.val (.str (sl (lhead N))))) (some (.val (.lst ((five N R).map fun p => .str (sl p))))) none none) (by simp [-pAdd_s, -pAdd_l, s11_law_k09, q7, q8, q9, q10, q11, q12, S, five]) ?_
  generalize (PV.lst ((five N R).map fun p => .str (sl p))) = X9 at *
  have du : due R = .tup [.tup [.str "red", RV], .tup [.str "blue", .tup [.str "not", RV]], .tup [.str "gold", .tup [.str "move", .int 1, .int (-1), .tup [.str "or", RV, .tup [.str "rows", .int 0, .int 1]]]]] := by rw [← hRV]; rfl
  refine z1 _ _ _ (S (some (.own c4)) (some (.val RV)) (some (.val (.str (sl (tx R))))) (some (.val P)) (some (.val X5)) (some (.val (.str (sl (ptx ps))))) (some (.val (.str N))) (some (.val (.str (sl (lhead N))))) (some (.val X9)) (some (.val (.tup [.str "or", RV, .tup [.str "rows", .int 0, .int 1]]))) none) (by simp [s12_law_k09, S]) ?_
  refine z1 _ _ _ (S (some (.own c4)) (some (.val RV)) (some (.val (.str (sl (tx R))))) (some (.val P)) (some (.val X5)) (some (.val (.str (sl (ptx ps))))) (some (.val (.str N))) (some (.val (.str (sl (lhead N))))) (some (.val X9)) (some (.val (.tup [.str "or", RV, .tup [.str "rows", .int 0, .int 1]]))) (some (.val (due R)))) (by simp [s13_law_k09, S, du]) ?_
  exact ⟨_, by simp [r14_law_k09, s14_law_k09, j3, r3, k3, S]; rfl⟩
end Pl

open PySem in
theorem PySem.Challenge.cw_anysheet_k09_texts_there_and_back_holds : PySem.Challenge.rw_anysheet_k09_texts_there_and_back.Holds := by
  exact Pl.end_of 60 ⟨⟨rfl, by decide, by decide⟩, rfl⟩ fun ns _ => Pl.law_ok ns
