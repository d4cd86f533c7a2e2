import PyProof.Rows.All
import Wide.All
import OpenK.AllK
import Wide.FinOn
import PySem.Challenge.RW_uf060003_02
set_option Elab.async false
set_option maxRecDepth 100000
set_option maxHeartbeats 8000000


set_option Elab.async false
set_option genSizeOf false
namespace Mine
open PySem PySem.W PyProof.Rows

/-! ## abstract values, heap, computations -/
inductive V where
  | none : V
  | bool (b : Bool) : V
  | int (i : Int) : V
  | str (s : String) : V
  | tup (xs : List V) : V
  | ref (i : Nat) : V
  | inst (c : String) (i : Nat) : V
  | exc (c : String) : V
  | scr : V

inductive O where
  | list (xs : List V)
  | dict (es : List (Int × V))
  | flds (fs : List (String × V))

abbrev Hp := List O
abbrev Loc := String → Option V
noncomputable def upd (l : Loc) (x : String) (v : V) : Loc := fun y => if y = x then some v else l y
structure S where
  l : Loc
  H : Hp

inductive Res (σ α : Type) where
  | ok (a : α) (s : σ)
  | exc (c : String) (s : σ)
  | stuck

abbrev Cm (α : Type) := S → Res S α
noncomputable def Cm.bnd {α β : Type} (m : Cm α) (f : α → Cm β) : Cm β := fun s => match m s with
  | .ok a s' => f a s'
  | .exc c s' => .exc c s'
  | .stuck => .stuck
noncomputable def Cm.pur {α : Type} (a : α) : Cm α := fun s => .ok a s
noncomputable def Cm.stk {α : Type} : Cm α := fun _ => .stuck
abbrev Fc := List V → Hp → Res Hp V

inductive Fl where
  | next
  | ret (v : V)

/-! ## the relation with the machine -/
structure Cx where
  prog : Program
  w : World
  K : Frag
  hB : Heap
  os : OsState
  mg : Str → Option Value
  mb : Str → Option Value
  cls : String → Option Addr
  xcl : String → Option Addr
  sa : Addr
  sv : List Value
  sn : List Int
abbrev Cx.M (G : Cx) : Model := model G.prog G.w

structure CxOk (G : Cx) : Prop where
  X : G.K.In G.hB
  g : G.hB.Ns mainGlobals G.mg
  b : G.hB.Ns builtinsNs G.mb
  bt : ∀ x : Str, x ≠ "__name__" → G.mb x = bootBuiltins x
  lim : G.hB.NoLimit
  seer : G.hB.NoSeer
  tree : G.prog.given.tree = none
  scr : G.hB.IsList G.sa G.sv.toArray
  isInts : IntsAre G.sv G.sn
  short : G.sn.length ≤ 63

mutual
noncomputable def VRel (G : Cx) (ι : List Addr) (h : Heap) : V → Value → Prop
  | .none, cv => cv = .none
  | .bool b, cv => cv = .bool b
  | .int i, cv => ∃ t, cv = .int i t
  | .str x, cv => ∃ t, cv = .str (Str.ofString x) t
  | .ref i, cv => ∃ a, ι[i]? = some a ∧ cv = .ref a
  | .inst c i, cv => ∃ a x C o, ι[i]? = some a ∧ G.cls c = some C ∧ cv = .ref x ∧ h.get? x = some o ∧ o.cls = .ref C ∧ o.dict = some a ∧ o.data = .plain
  | .exc c, cv => ∃ x C o, G.xcl c = some C ∧ cv = .ref x ∧ h.get? x = some o ∧ o.cls = .ref C ∧ ∃ vs, o.data = .fields vs
  | .scr, cv => cv = .ref G.sa
  | .tup xs, cv => ∃ a vs, cv = .ref a ∧ IsTup h a vs.toArray ∧ VRels G ι h xs vs
noncomputable def VRels (G : Cx) (ι : List Addr) (h : Heap) : List V → List Value → Prop
  | [], vs => vs = []
  | x :: xs, vs => ∃ v vs', vs = v :: vs' ∧ VRel G ι h x v ∧ VRels G ι h xs vs'
end

noncomputable def DRel (G : Cx) (ι : List Addr) (h : Heap) : List (Int × V) → List (Int × Value) → Prop
  | [], vs => vs = []
  | x :: xs, vs => ∃ v vs', vs = (x.1, v) :: vs' ∧ VRel G ι h x.2 v ∧ DRel G ι h xs vs'
noncomputable def FRel (G : Cx) (ι : List Addr) (h : Heap) : List (String × V) → List DictEntry → Prop
  | [], es => es = []
  | x :: xs, es => ∃ t v es', es = ⟨PyData.keyHash G.w.params (Str.ofString x.1), .str (Str.ofString x.1) t, v⟩ :: es' ∧ VRel G ι h x.2 v ∧ FRel G ι h xs es'

noncomputable def ORel (G : Cx) (ι : List Addr) (h : Heap) (a : Addr) : O → Prop
  | .list xs => ∃ vs : List Value, h.PlainList a vs.toArray ∧ VRels G ι h xs vs
  | .dict es => ∃ kvs, h.DictOf (intKind G.prog G.w) a kvs ∧ DRel G ι h es kvs
  | .flds fs => ∃ es n, h.get? a = some (dictOf es n) ∧ FRel G ι h fs es

structure StOk (G : Cx) (ι : List Addr) (H : Hp) (h : Heap) : Prop where
  keep : G.hB.StaysIn h
  len : ι.length = H.length
  nodup : ι.Nodup
  fresh : ∀ a ∈ ι, G.hB.get? a = none
  obj : ∀ (i : Nat) (a : Addr) (o : O), ι[i]? = some a → H[i]? = some o → ORel G ι h a o

noncomputable def own (env : Env) : List Addr := env.locals :: env.cells.map (·.2)

structure FrOk (G : Cx) (env : Env) (l : Loc) (ι : List Addr) (hv hl : Heap) : Prop where
  kind : env.scope.kind = .function
  glob : env.globals = mainGlobals
  blt : env.builtins = builtinsNs
  loc : ∃ m, hl.Ns env.locals m ∧ ∀ x v, l x = some v → env.kindOf (Str.ofString x) = some .local → ∃ cv, m (Str.ofString x) = some cv ∧ VRel G ι hv v cv
  cel : ∀ x v, l x = some v → (env.kindOf (Str.ofString x) = some .cell ∨ env.kindOf (Str.ofString x) = some .free) →
    ∃ c o cv, env.cells.lookup (Str.ofString x) = some c ∧ hv.get? c = some o ∧ o.data = .cell (some cv) ∧ VRel G ι hv v cv
  cells : ∀ p ∈ env.cells, ∃ o ov, hv.get? p.2 = some o ∧ o.data = .cell ov
  ndup : (env.cells.map (·.2)).Nodup
  dis : ∀ a ∈ own env, a ∉ ι
  fresh : ∀ a ∈ own env, G.hB.get? a = none

/-- mutable things: lists, dicts (frames too), cells -/
noncomputable def Mut (o : Obj) : Prop := (∃ n, o.cls = .type n ∧ n ≠ "tuple") ∨ (∃ es n, o.data = .dict es n) ∨ ∃ v, o.data = .cell v

noncomputable def Dom (h h' : Heap) : Prop := ∀ a o, h.get? a = some o → ∃ o', h'.get? a = some o'
theorem Dom.refl (h : Heap) : Dom h h := fun _ o e => ⟨o, e⟩
theorem Dom.trans {h h' h'' : Heap} (x : Dom h h') (y : Dom h' h'') : Dom h h'' := fun a o e => let ⟨o', e'⟩ := x a o e; y a o' e'
theorem Dom.of_stays {h h' : Heap} (k : h.StaysIn h') : Dom h h' := fun _ o e => ⟨o, k _ o e⟩
/-- what is outside W stays: exactly, or, for frames, up to their slots -/
structure Kp (W fr : List Addr) (h h' : Heap) : Prop where
  size : Dom h h'
  up : ∀ a o, h.get? a = some o → a ∉ W → ∃ sl, h'.get? a = some { o with slots := sl }
  ex : ∀ a o, h.get? a = some o → a ∉ W → a ∉ fr → h'.get? a = some o

/-- what the values need: the things that never change -/
noncomputable def Imm (h h' : Heap) : Prop := ∀ a o, h.get? a = some o → ¬ Mut o → ∃ sl, h'.get? a = some { o with slots := sl }

noncomputable def frs (A : Around) : List Addr := (A.frames.getD []).filterMap (·.frame)

theorem Imm.refl (h : Heap) : Imm h h := fun _ o e _ => ⟨o.slots, e⟩
theorem Imm.of_stays {h h' : Heap} (k : h.StaysIn h') : Imm h h' := fun _ o e _ => ⟨o.slots, k _ o e⟩

section
variable {G : Cx} {ι ι' : List Addr} {h h' : Heap}
theorem getElem?_prefix {α : Type} {l l' : List α} (p : l <+: l') {i : Nat} {a : α} (e : l[i]? = some a) : l'[i]? = some a := by
  obtain ⟨t, rfl⟩ := p
  rw [List.getElem?_append_left (List.getElem?_eq_some_iff.mp e).1]; exact e

mutual
theorem VRel.mono (p : ι <+: ι') (k : Imm h h') : ∀ {v : V} {cv : Value}, VRel G ι h v cv → VRel G ι' h' v cv
  | .none, _, x => x
  | .bool _, _, x => x
  | .int _, _, x => x
  | .str _, _, x => x
  | .scr, _, x => x
  | .ref _, _, ⟨a, e, q⟩ => ⟨a, getElem?_prefix p e, q⟩
  | .inst _ _, _, ⟨a, x, C, o, e, hc, q, ho, oc, od, oda⟩ => by
    obtain ⟨sl, hs⟩ := k x o ho (by rintro (⟨n, q, q2⟩ | ⟨es, n, q⟩ | ⟨v, q⟩) <;> simp_all)
    exact ⟨a, x, C, _, getElem?_prefix p e, hc, q, hs, oc, od, oda⟩
  | .exc _, _, ⟨x, C, o, hc, q, ho, oc, vs, od⟩ => by
    obtain ⟨sl, hs⟩ := k x o ho (by rintro (⟨n, q, q2⟩ | ⟨es, n, q⟩ | ⟨v, q⟩) <;> simp_all)
    exact ⟨x, C, _, hc, q, hs, oc, vs, od⟩
  | .tup _, _, ⟨a, vs, q, ⟨o, ho, oc, n, od⟩, hs⟩ => by
    obtain ⟨sl, h2⟩ := k a o ho (by rintro (⟨n, q, q2⟩ | ⟨es, n, q⟩ | ⟨v, q⟩) <;> simp_all)
    exact ⟨a, vs, q, ⟨_, h2, oc, n, od⟩, VRels.mono p k hs⟩
theorem VRels.mono (p : ι <+: ι') (k : Imm h h') : ∀ {vs : List V} {cvs : List Value}, VRels G ι h vs cvs → VRels G ι' h' vs cvs
  | [], _, x => x
  | _ :: _, _, ⟨v, vs', q, a, b⟩ => ⟨v, vs', q, VRel.mono p k a, VRels.mono p k b⟩
end

theorem vNone : VRel G ι h .none .none := rfl
theorem vBool (b : Bool) : VRel G ι h (.bool b) (.bool b) := rfl
theorem vInt (i : Int) (t : Tok) : VRel G ι h (.int i) (.int i t) := ⟨t, rfl⟩
theorem vNil : VRels G ι h [] [] := rfl
theorem vCons {v : V} {cv : Value} {vs : List V} {cvs : List Value} (a : VRel G ι h v cv) (b : VRels G ι h vs cvs) : VRels G ι h (v :: vs) (cv :: cvs) := ⟨cv, cvs, rfl, a, b⟩

theorem DRel.mono (p : ι <+: ι') (k : Imm h h') : ∀ {vs : List (Int × V)} {cvs : List (Int × Value)}, DRel G ι h vs cvs → DRel G ι' h' vs cvs
  | [], _, x => x
  | _ :: _, _, ⟨v, vs', q, a, b⟩ => ⟨v, vs', q, a.mono p k, DRel.mono p k b⟩
theorem FRel.mono (p : ι <+: ι') (k : Imm h h') : ∀ {vs : List (String × V)} {cvs : List DictEntry}, FRel G ι h vs cvs → FRel G ι' h' vs cvs
  | [], _, x => x
  | _ :: _, _, ⟨t, v, vs', q, a, b⟩ => ⟨t, v, vs', q, a.mono p k, FRel.mono p k b⟩
theorem VRels.length : ∀ {vs : List V} {cvs : List Value}, VRels G ι h vs cvs → cvs.length = vs.length
  | [], _, x => by rw [show _ = _ from x]; rfl
  | _ :: _, _, ⟨_, _, q, _, b⟩ => by rw [q, List.length_cons, List.length_cons, VRels.length b]
theorem VRels.get : ∀ {vs : List V} {cvs : List Value}, VRels G ι h vs cvs → ∀ {i : Nat} {v : V}, vs[i]? = some v → ∃ cv, cvs[i]? = some cv ∧ VRel G ι h v cv
  | [], _, _, _, _, e => by simp at e
  | x :: xs, _, ⟨v, vs', q, a, b⟩, i, w, e => by
    subst q
    cases i with
    | zero => simp at e; subst e; exact ⟨v, rfl, a⟩
    | succ i => simpa using VRels.get b (by simpa using e)
theorem VRels.append : ∀ {vs : List V} {cvs : List Value}, VRels G ι h vs cvs → ∀ {ws : List V} {cws : List Value}, VRels G ι h ws cws → VRels G ι h (vs ++ ws) (cvs ++ cws)
  | [], _, x, _, _, y => by rw [show _ = [] from x]; exact y
  | _ :: _, _, ⟨v, vs', q, a, b⟩, _, _, y => by subst q; exact ⟨v, _, rfl, a, VRels.append b y⟩
theorem VRels.set : ∀ {vs : List V} {cvs : List Value}, VRels G ι h vs cvs → ∀ (i : Nat) {w : V} {cw : Value}, VRel G ι h w cw → VRels G ι h (vs.set i w) (cvs.set i cw)
  | [], _, x, _, _, _, _ => by rw [show _ = [] from x]; rfl
  | _ :: _, _, ⟨v, vs', q, a, b⟩, 0, _, _, y => by subst q; exact ⟨_, _, rfl, y, b⟩
  | _ :: _, _, ⟨v, vs', q, a, b⟩, i + 1, _, _, y => by subst q; exact ⟨_, _, rfl, a, VRels.set b i y⟩
theorem VRels.take : ∀ {vs : List V} {cvs : List Value}, VRels G ι h vs cvs → ∀ (n : Nat), VRels G ι h (vs.take n) (cvs.take n)
  | [], _, x, n => by rw [show _ = [] from x]; simp [VRels]
  | _ :: _, _, ⟨v, vs', q, a, b⟩, 0 => by simp [VRels]
  | _ :: _, _, ⟨v, vs', q, a, b⟩, n + 1 => by subst q; exact ⟨_, _, rfl, a, VRels.take b n⟩
theorem VRels.drop : ∀ {vs : List V} {cvs : List Value}, VRels G ι h vs cvs → ∀ (n : Nat), VRels G ι h (vs.drop n) (cvs.drop n)
  | [], _, x, n => by rw [show _ = [] from x]; simp [VRels]
  | _ :: _, _, ⟨v, vs', q, a, b⟩, 0 => ⟨v, vs', q, a, b⟩
  | _ :: _, _, ⟨v, vs', q, a, b⟩, n + 1 => by subst q; exact VRels.drop b n
end
end Mine

set_option Elab.async false
namespace Mine
open PySem PySem.W PyProof.Rows

noncomputable def FsOk (G : Cx) (fs : List Env) (ι : List Addr) (h : Heap) : Prop :=
  ∀ env ∈ fs, env.scope.kind ≠ .module ∧ ∃ L o, env.frame = some L ∧ h.get? L = some o ∧ (∃ es n, o.data = .dict es n) ∧ L ∉ ι ∧ G.hB.get? L = none

structure ROk (hq : Bool) (k : Nat) (A : Around) : Prop where
  hd : hq = true → A.handled = none
  depth : A.depth + 3 * k ≤ 800
  units : A.units + 50 * k ≤ 9000

structure AOk (hq : Bool) (k : Nat) (A : Around) (env : Env) : Prop extends ROk hq k A where
  fr : ∃ fenv rest, A.frames = some (fenv :: rest) ∧ fenv.frame = env.frame ∧ fenv.scope.isGenerator = false ∧ fenv.scope.isCoroutine = false ∧ fenv.builtins = builtinsNs ∧ fenv.globals = mainGlobals

structure Rel (G : Cx) (A : Around) (env : Env) (ι : List Addr) (q : S) (s : Shared) : Prop where
  st : StOk G ι q.H s.heap
  fr : FrOk G env q.l ι s.heap s.heap
  fs : FsOk G (A.frames.getD []) ι s.heap
  gens : s.gens = #[]
  os : s.os = G.os

structure Post (G : Cx) (A : Around) (env : Env) (ι : List Addr) (s : Shared) (ι' : List Addr) (q' : S) (s' : Shared) : Prop where
  pre : ι <+: ι'
  rel : Rel G A env ι' q' s'
  kp : Kp (own env ++ ι) (frs A) s.heap s'.heap
  new : ∀ a ∈ ι', a ∈ ι ∨ s.heap.get? a = none

/-- an exception on its way: just made, come in from a callee, or noted in this frame -/
noncomputable def Flight (B : Heap) (fs : List Env) (L e : Addr) (C : Value) (h : Heap) : Prop :=
  B.StaysIn h ∧ B.get? e = none ∧ h.FunFrames B fs ∧ ∃ oe vs a0, h.get? e = some oe ∧ oe.cls = C ∧ oe.data = .fields vs ∧ vs[0]? = some a0 ∧
    (vs[1]? = some .none ∨ ∃ T oT ts fl, vs[1]? = some (.ref T) ∧ B.get? T = none ∧ T ≠ e ∧ h.get? T = some oT ∧ oT.data = .fields ts ∧ ts[3]? = some fl ∧ (fl = .none ∨ fl = rawInt L))

structure XPost (G : Cx) (A : Around) (env : Env) (ι : List Addr) (s : Shared) (c : String) (ι' : List Addr) (q' : S) (s' : Shared) (ev : Value) : Prop where
  pre : ι <+: ι'
  ex : ∃ e C B L, ev = .ref e ∧ G.xcl c = some C ∧ env.frame = some L ∧ Flight B (A.frames.getD []) L e (.ref C) s'.heap ∧ StOk G ι' q'.H B ∧ FrOk G env q'.l ι' B s'.heap ∧
    FsOk G (A.frames.getD []) ι' s'.heap ∧
    (∀ a o, s.heap.get? a = some o → a ∉ own env ++ ι → a ∉ frs A → B.get? a = some o)
  size : Dom s.heap s'.heap
  up : ∀ a o, s.heap.get? a = some o → a ∉ own env ++ ι → ∃ sl, s'.heap.get? a = some { o with slots := sl }
  new : ∀ a ∈ ι', a ∈ ι ∨ s.heap.get? a = none
  gens : s'.gens = #[]
  os : s'.os = G.os

abbrev PT (β : Type) := (β → Shared → Prop) → (Value → Shared → Prop) → Shared → Prop
abbrev wpT {β : Type} (G : Cx) (A : Around) (t : Sem β) : PT β := fun Q E s => wpAny G.M A t Q E s

noncomputable def Sat (G : Cx) (A : Around) (env : Env) (ι : List Addr) (s : Shared) {α β : Type} (r : Res S α) (REL : List Addr → Heap → α → β → Prop) (T : PT β) : Prop :=
  match r with
  | .ok a q' => ∀ Q E, (∀ ι' b s', Post G A env ι s ι' q' s' → REL ι' s'.heap a b → Q b s') → T Q E s
  | .exc c q' => ∀ Q E, (∀ ι' ev s', XPost G A env ι s c ι' q' s' ev → E ev s') → T Q E s
  | .stuck => True

noncomputable def Fin (G : Cx) (A : Around) (env : Env) (ι : List Addr) (s : Shared) {α β : Type} (r : Res S α) (REL : List Addr → Heap → α → β → Prop) (Q : β → Shared → Prop) (E : Value → Shared → Prop) : Prop :=
  match r with
  | .ok a q'' => ∀ ι'' b s'', Post G A env ι s ι'' q'' s'' → REL ι'' s''.heap a b → Q b s''
  | .exc c q'' => ∀ ι'' ev s'', XPost G A env ι s c ι'' q'' s'' ev → E ev s''
  | .stuck => False

noncomputable def Sem.Is (G : Cx) (hq : Bool) (k : Nat) (env : Env) {α β : Type} (T : Around → PT β) (m : Cm α) (REL : List Addr → Heap → α → β → Prop) : Prop :=
  ∀ A ι q s, AOk hq k A env → Rel G A env ι q s → Sat G A env ι s (m q) REL (T A)

abbrev Ev (G : Cx) (hq : Bool) (k : Nat) (env : Env) (e : Expr) (m : Cm V) : Prop := Sem.Is G hq k env (fun A => wpT G A (eval e env)) m (VRel G)
abbrev Tr (G : Cx) (hq : Bool) (k : Nat) (env : Env) (e : Expr) (m : Cm Bool) : Prop := Sem.Is G hq k env (fun A => wpT G A (isTrue e env (eval e env))) m (fun _ _ a b => a = b)
noncomputable def FlRel (G : Cx) (ι : List Addr) (h : Heap) : Fl → Flow → Prop
  | .next, f => f = .next
  | .ret v, f => ∃ cv, f = .ret cv ∧ VRel G ι h v cv
abbrev Ex (G : Cx) (hq : Bool) (k : Nat) (env : Env) (st : Stmt) (m : Cm Fl) : Prop := Sem.Is G hq k env (fun A => wpT G A (exec st env)) m (FlRel G)
abbrev Exs (G : Cx) (hq : Bool) (k : Nat) (env : Env) (st : List Stmt) (m : Cm Fl) : Prop := Sem.Is G hq k env (fun A => wpT G A (execs st env)) m (FlRel G)

section
variable {G : Cx} {A : Around} {env : Env} {ι ι' ι'' : List Addr} {q q' q'' : S} {s s' s'' : Shared} {α β γ : Type}

theorem Kp.refl (W fr : List Addr) (h : Heap) : Kp W fr h h := ⟨Dom.refl _, fun _ o e _ => ⟨o.slots, e⟩, fun _ _ e _ _ => e⟩
theorem Kp.of_stays {W fr : List Addr} {h h' : Heap} (k : h.StaysIn h') : Kp W fr h h' := ⟨Dom.of_stays k, fun _ o e _ => ⟨o.slots, k _ o e⟩, fun _ _ e _ _ => k _ _ e⟩

theorem new_trans {a : Addr} {h h' : Heap} (n1 : ∀ a ∈ ι', a ∈ ι ∨ h.get? a = none) (sz : Dom h h') (n2 : ∀ a ∈ ι'', a ∈ ι' ∨ h'.get? a = none) (ha : a ∈ ι'') : a ∈ ι ∨ h.get? a = none :=
  (n2 a ha).elim (n1 a) fun x => .inr (by
    cases e : h.get? a with
    | none => rfl
    | some o => obtain ⟨o', e'⟩ := sz a o e; rw [x] at e'; cases e')
theorem not_W {W : List Addr} {a : Addr} {o : Obj} {h : Heap} (n1 : ∀ a ∈ ι', a ∈ ι ∨ h.get? a = none) (e : h.get? a = some o) (hW : a ∉ W ++ ι) : a ∉ W ++ ι' := fun hm =>
  (List.mem_append.mp hm).elim (fun x => hW (List.mem_append_left _ x)) fun x => (n1 a x).elim (fun y => hW (List.mem_append_right _ y)) fun y => by rw [y] at e; cases e

theorem Kp.trans {W fr : List Addr} {h h' h'' : Heap} (n1 : ∀ a ∈ ι', a ∈ ι ∨ h.get? a = none) (x : Kp (W ++ ι) fr h h') (y : Kp (W ++ ι') fr h' h'') : Kp (W ++ ι) fr h h'' where
  size := x.size.trans y.size
  up := fun a o e hW => by
    obtain ⟨sl, e1⟩ := x.up a o e hW
    obtain ⟨sl2, e2⟩ := y.up a _ e1 (not_W n1 e hW)
    exact ⟨sl2, e2⟩
  ex := fun a o e hW hf => y.ex a o (x.ex a o e hW hf) (not_W n1 e hW) hf

theorem Post.trans (x : Post G A env ι s ι' q' s') (y : Post G A env ι' s' ι'' q'' s'') : Post G A env ι s ι'' q'' s'' where
  pre := x.pre.trans y.pre
  rel := y.rel
  kp := x.kp.trans x.new y.kp
  new := fun _ ha => new_trans x.new x.kp.size y.new ha

theorem Post.transX {c : String} {ev : Value} (x : Post G A env ι s ι' q' s') (y : XPost G A env ι' s' c ι'' q'' s'' ev) : XPost G A env ι s c ι'' q'' s'' ev where
  pre := x.pre.trans y.pre
  ex := by
    obtain ⟨e, C, B, L, h1, h2, h3, h4, h5, h6, h7, h8⟩ := y.ex
    exact ⟨e, C, B, L, h1, h2, h3, h4, h5, h6, h7, fun a o e hW hf => h8 a o (x.kp.ex a o e hW hf) (not_W x.new e hW) hf⟩
  size := x.kp.size.trans y.size
  up := fun a o e hW => by
    obtain ⟨sl, e1⟩ := x.kp.up a o e hW
    obtain ⟨sl2, e2⟩ := y.up a _ e1 (not_W x.new e hW)
    exact ⟨sl2, e2⟩
  new := fun _ ha => new_trans x.new x.kp.size y.new ha
  gens := y.gens
  os := y.os

theorem StOk.mut (x : StOk G ι q.H s.heap) {a : Addr} (ha : a ∈ ι) : ∃ o, s.heap.get? a = some o ∧ Mut o := by
  obtain ⟨i, hi, rfl⟩ := List.mem_iff_getElem.mp ha
  have hi' : i < q.H.length := x.len ▸ hi
  have := x.obj i ι[i] q.H[i] (by simp) (by simp)
  cases ho : q.H[i] with
  | list xs => rw [ho] at this; obtain ⟨vs, ⟨n, e⟩, _⟩ := this; exact ⟨_, e, .inl ⟨"list", rfl, by decide⟩⟩
  | dict es => rw [ho] at this; obtain ⟨kvs, ⟨o, es', ep, e, _, hd, _⟩, _⟩ := this; exact ⟨o, e, .inr (.inl ⟨es', ep, hd⟩)⟩
  | flds fs => rw [ho] at this; obtain ⟨es, n, e, _⟩ := this; exact ⟨_, e, .inr (.inl ⟨_, _, rfl⟩)⟩

theorem FrOk.mut {l : Loc} {hv hl : Heap} (k : ∀ b o, hv.get? b = some o → hl.get? b = some o) (x : FrOk G env l ι hv hl) {a : Addr} (ha : a ∈ own env) : ∃ o, hl.get? a = some o ∧ Mut o := by
  rcases List.mem_cons.mp ha with rfl | ha
  · obtain ⟨m, ⟨o, es, ep, ho, hd, _⟩, _⟩ := x.loc
    exact ⟨o, ho, .inr (.inl ⟨es, ep, hd⟩)⟩
  · obtain ⟨p, hp, rfl⟩ := List.mem_map.mp ha
    obtain ⟨o, ov, ho, hd⟩ := x.cells p hp
    exact ⟨o, k _ _ ho, .inr (.inr ⟨ov, hd⟩)⟩

theorem Rel.imm' (R : Rel G A env ι q s) {h' : Heap} (up : ∀ a o, s.heap.get? a = some o → a ∉ own env ++ ι → ∃ sl, h'.get? a = some { o with slots := sl }) : Imm s.heap h' := fun a o e hm => up a o e fun hW => by
  rcases List.mem_append.mp hW with h | h
  · obtain ⟨o', e', hm'⟩ := R.fr.mut (fun _ _ e => e) h
    rw [e] at e'; cases e'; exact hm hm'
  · obtain ⟨o', e', hm'⟩ := R.st.mut h
    rw [e] at e'; cases e'; exact hm hm'

theorem Rel.imm (R : Rel G A env ι q s) {fr : List Addr} {h' : Heap} (k : Kp (own env ++ ι) fr s.heap h') : Imm s.heap h' := R.imm' k.up
theorem Post.vrel {v : V} {cv : Value} (R : Rel G A env ι q s) (P : Post G A env ι s ι' q' s') (x : VRel G ι s.heap v cv) : VRel G ι' s'.heap v cv := x.mono P.pre (R.imm P.kp)
theorem Sat.mono {r : Res S α} {REL : List Addr → Heap → α → β → Prop} {T : PT β} (P : Post G A env ι s ι' q' s') (h : Sat G A env ι' s' r REL T) {Q : β → Shared → Prop} {E : Value → Shared → Prop}
    (hQ : Fin G A env ι s r REL Q E) : T Q E s' := by
  cases r with
  | ok a q'' => exact h Q E fun ι'' b s'' x y => hQ ι'' b s'' (P.trans x) y
  | exc c q'' => exact h Q E fun ι'' ev s'' x => hQ ι'' ev s'' (P.transX x)
  | stuck => exact hQ.elim

theorem Sat.imp {r : Res S α} {REL : List Addr → Heap → α → β → Prop} {T T' : PT β} (h : Sat G A env ι s r REL T) (k : ∀ Q E, T Q E s → T' Q E s) : Sat G A env ι s r REL T' := by
  cases r with
  | ok a q' => exact fun Q E x => k _ _ (h Q E x)
  | exc c q' => exact fun Q E x => k _ _ (h Q E x)
  | stuck => trivial

theorem Sat.bnd {m : Cm α} {f : α → Cm γ} {β' : Type} {REL : List Addr → Heap → α → β → Prop} {REL' : List Addr → Heap → γ → β' → Prop} {T : PT β} {T' : β → PT β'}
    (h : Sat G A env ι s (m q) REL T)
    (k : ∀ a q' ι' b s', m q = .ok a q' → Post G A env ι s ι' q' s' → REL ι' s'.heap a b → Sat G A env ι' s' (f a q') REL' (T' b)) :
    Sat G A env ι s ((m.bnd f) q) REL' (fun Q E s => T (fun b s₁ => T' b Q E s₁) E s) := by
  unfold Cm.bnd
  cases hm : m q with
  | stuck => trivial
  | exc c q' =>
    rw [hm] at h
    exact fun Q E x => h _ E x
  | ok a q' =>
    rw [hm] at h
    dsimp only
    have k' := k a q'
    cases hf : f a q' with
    | stuck => trivial
    | ok c q'' =>
      intro Q E x
      refine h _ E fun ι' b s' P R => ?_
      have := k' ι' b s' hm P R
      rw [hf] at this
      exact this Q E fun ι'' b' s'' P' R' => x ι'' b' s'' (P.trans P') R'
    | exc c q'' =>
      intro Q E x
      refine h _ E fun ι' b s' P R => ?_
      have := k' ι' b s' hm P R
      rw [hf] at this
      exact this Q E fun ι'' ev s'' P' => x ι'' ev s'' (P.transX P')

theorem bnd_ok {m : Cm α} {f : α → Cm β} {a : α} (e : m q = .ok a q') : (m.bnd f) q = f a q' := by unfold Cm.bnd; rw [e]
theorem bnd_stuck {m : Cm α} {f : α → Cm β} (e : m q = .stuck) : (m.bnd f) q = .stuck := by unfold Cm.bnd; rw [e]
theorem bnd_exc {m : Cm α} {f : α → Cm β} {c : String} (e : m q = .exc c q') : (m.bnd f) q = .exc c q' := by unfold Cm.bnd; rw [e]

theorem Sem.Is.bnd {hq : Bool} {k : Nat} {m : Cm α} {f : α → Cm γ} {β' : Type} {REL : List Addr → Heap → α → β → Prop} {REL' : List Addr → Heap → γ → β' → Prop} {T : Around → PT β} {T' : Around → β → PT β'} {T'' : Around → PT β'}
    (h : Sem.Is G hq k env T m REL)
    (hk : ∀ A a q ι b s, AOk hq k A env → Rel G A env ι q s → REL ι s.heap a b → Sat G A env ι s (f a q) REL' (T' A b))
    (hT : ∀ A Q E s, T A (fun b s₁ => T' A b Q E s₁) E s → T'' A Q E s) : Sem.Is G hq k env T'' (m.bnd f) REL' :=
  fun A ι q s ha hr => (Sat.bnd (T' := T' A) (h A ι q s ha hr) fun a q' ι' b s' _ P R => hk A a q' ι' b s' ha P.rel R).imp fun Q E x => hT A Q E s x

theorem Sem.Is.imp {hq : Bool} {k : Nat} {m : Cm α} {REL : List Addr → Heap → α → β → Prop} {T T' : Around → PT β} (h : Sem.Is G hq k env T m REL) (hT : ∀ A Q E s, T A Q E s → T' A Q E s) : Sem.Is G hq k env T' m REL :=
  fun A ι q s ha hr => (h A ι q s ha hr).imp fun Q E x => hT A Q E s x

theorem nodup_inj {l : List Addr} (hn : l.Nodup) {i j : Nat} {a : Addr} (hi : l[i]? = some a) (hj : l[j]? = some a) : i = j := by
  obtain ⟨h1, e1⟩ := List.getElem?_eq_some_iff.mp hi
  obtain ⟨h2, e2⟩ := List.getElem?_eq_some_iff.mp hj
  have := List.pairwise_iff_getElem.mp hn
  rcases Nat.lt_trichotomy i j with h | h | h
  · exact absurd (e1.trans e2.symm) (this i j h1 h2 h)
  · exact h
  · exact absurd (e2.trans e1.symm) (this j i h2 h1 h)

/-! ### growing and changing the heap -/
theorem ORel.there {h : Heap} {a : Addr} {o : O} (x : ORel G ι h a o) : ∃ o', h.get? a = some o' := by
  cases o with
  | list xs => obtain ⟨vs, ⟨n, e⟩, r⟩ := x; exact ⟨_, e⟩
  | dict es => obtain ⟨kvs, ⟨o, es', ep, e, d⟩, r⟩ := x; exact ⟨_, e⟩
  | flds fs => obtain ⟨es, n, e, r⟩ := x; exact ⟨_, e⟩
theorem ORel.stays {h h' : Heap} {a : Addr} {o : O} (p : ι <+: ι') (k : h.StaysIn h') (x : ORel G ι h a o) : ORel G ι' h' a o := by
  have im := Imm.of_stays k
  cases o with
  | list xs => obtain ⟨vs, ⟨n, e⟩, r⟩ := x; exact ⟨vs, ⟨n, k _ _ e⟩, r.mono p im⟩
  | dict es => obtain ⟨kvs, d, r⟩ := x; exact ⟨kvs, d.keep k, r.mono p im⟩
  | flds fs => obtain ⟨es, n, e, r⟩ := x; exact ⟨es, n, k _ _ e, r.mono p im⟩

/-- an object kept at its own place while the values' things stay -/
theorem ORel.at {h h' : Heap} {a : Addr} {o : O} (p : ι <+: ι') (im : Imm h h') (k : ∀ o, h.get? a = some o → h'.get? a = some o) (x : ORel G ι h a o) : ORel G ι' h' a o := by
  cases o with
  | list xs => obtain ⟨vs, ⟨n, e⟩, r⟩ := x; exact ⟨vs, ⟨n, k _ e⟩, r.mono p im⟩
  | dict es => obtain ⟨kvs, ⟨o, es', ep, e, d⟩, r⟩ := x; exact ⟨kvs, ⟨o, es', ep, k _ e, d⟩, r.mono p im⟩
  | flds fs => obtain ⟨es, n, e, r⟩ := x; exact ⟨es, n, k _ e, r.mono p im⟩

theorem StOk.stays {H : Hp} {h h' : Heap} (x : StOk G ι H h) (k : h.StaysIn h') : StOk G ι H h' where
  keep := fun b o e => k b o (x.keep b o e)
  len := x.len
  nodup := x.nodup
  fresh := x.fresh
  obj := fun i a o e1 e2 => (x.obj i a o e1 e2).stays (List.prefix_refl _) k

theorem FrOk.stays {l : Loc} {hv hl hv' hl' : Heap} (x : FrOk G env l ι hv hl) (k : hv.StaysIn hv') (k' : hl.StaysIn hl') : FrOk G env l ι hv' hl' where
  kind := x.kind
  glob := x.glob
  blt := x.blt
  loc := let ⟨m, hn, hm⟩ := x.loc; ⟨m, hn.keeps k', fun y v e e2 => let ⟨cv, a, b⟩ := hm y v e e2; ⟨cv, a, b.mono (List.prefix_refl _) (.of_stays k)⟩⟩
  cel := fun y v e e2 => let ⟨c, o, cv, a, b, d, f⟩ := x.cel y v e e2; ⟨c, o, cv, a, k _ _ b, d, f.mono (List.prefix_refl _) (.of_stays k)⟩
  cells := fun p hp => let ⟨o, ov, a, b⟩ := x.cells p hp; ⟨o, ov, k _ _ a, b⟩
  ndup := x.ndup
  dis := x.dis
  fresh := x.fresh

theorem FsOk.stays {fs : List Env} {h h' : Heap} (x : FsOk G fs ι h) (k : h.StaysIn h') : FsOk G fs ι h' := fun env he =>
  let ⟨a, L, o, b, c, d⟩ := x env he; ⟨a, L, o, b, k _ _ c, d⟩

theorem Rel.stays (R : Rel G A env ι q s) {h' : Heap} {tk : Nat} (k : s.heap.StaysIn h') : Rel G A env ι q { s with heap := h', toks := tk } where
  st := R.st.stays k
  fr := R.fr.stays k k
  fs := R.fs.stays k
  gens := R.gens
  os := R.os

theorem Post.stays (R : Rel G A env ι q s) {h' : Heap} {tk : Nat} (k : s.heap.StaysIn h') : Post G A env ι s ι q { s with heap := h', toks := tk } where
  pre := List.prefix_refl _
  rel := R.stays k
  kp := .of_stays k
  new := fun _ ha => .inl ha

theorem Post.refl (R : Rel G A env ι q s) : Post G A env ι s ι q s where
  pre := List.prefix_refl _
  rel := R
  kp := .refl _ _ _
  new := fun _ ha => .inl ha
theorem Post.toks (R : Rel G A env ι q s) (tk : Nat) : Post G A env ι s ι q { s with toks := tk } := Post.stays (h' := s.heap) R fun _ _ e => e

theorem Sat.ret {a : α} {b : β} {REL : List Addr → Heap → α → β → Prop} {T : PT β} {tk : Nat} (R : Rel G A env ι q s) (hR : REL ι s.heap a b) (hT : ∀ Q E, Q b { s with toks := tk } → T Q E s) :
    Sat G A env ι s (.ok a q) REL T := fun _ _ x => hT _ _ (x ι b _ (Post.toks R tk) hR)
theorem Sat.ret0 {a : α} {b : β} {REL : List Addr → Heap → α → β → Prop} {T : PT β} (R : Rel G A env ι q s) (hR : REL ι s.heap a b) (hT : ∀ Q E, Q b s → T Q E s) :
    Sat G A env ι s (.ok a q) REL T := fun _ _ x => hT _ _ (x ι b _ (Post.refl R) hR)
/-- the heap only grew -/
theorem Sat.grew {a : α} {b : β} {REL : List Addr → Heap → α → β → Prop} {T : PT β} {h' : Heap} {tk : Nat} (R : Rel G A env ι q s) (k : s.heap.StaysIn h') (hR : REL ι h' a b)
    (hT : ∀ Q E, Q b { s with heap := h', toks := tk } → T Q E s) : Sat G A env ι s (.ok a q) REL T := fun _ _ x => hT _ _ (x ι b _ (Post.stays R k) hR)

theorem Rel.fresh_ne (R : Rel G A env ι q s) {a : Addr} (ha : s.heap.get? a = none) : a ∉ ι ∧ a ∉ own env ∧ G.hB.get? a = none := by
  refine ⟨fun h => ?_, fun h => ?_, ?_⟩
  · obtain ⟨o, e, _⟩ := R.st.mut h; rw [ha] at e; cases e
  · obtain ⟨o, e, _⟩ := R.fr.mut (fun _ _ e => e) h; rw [ha] at e; cases e
  · cases e : G.hB.get? a with
    | none => rfl
    | some o => have := R.st.keep _ _ e; rw [ha] at this; cases this

/-- a new abstract object -/
theorem Post.alloc (R : Rel G A env ι q s) {h' : Heap} {tk : Nat} {a : Addr} {o : O} (k : s.heap.StaysIn h') (ha : s.heap.get? a = none) (ho : ORel G (ι ++ [a]) h' a o) :
    Post G A env ι s (ι ++ [a]) { q with H := q.H ++ [o] } { s with heap := h', toks := tk } := by
  have pre : ι <+: ι ++ [a] := List.prefix_append _ _
  have im := Imm.of_stays k
  obtain ⟨n1, n2, n3⟩ := R.fresh_ne ha
  have R' := R.stays (tk := tk) k
  refine ⟨pre, ⟨⟨R'.st.keep, by simp [R.st.len], ?_, ?_, ?_⟩, ⟨R'.fr.kind, R'.fr.glob, R'.fr.blt, ?_, ?_, R'.fr.cells, R'.fr.ndup, ?_, R'.fr.fresh⟩, ?_, R.gens, R.os⟩, (.of_stays k), ?_⟩
  · exact List.nodup_append.mpr ⟨R.st.nodup, by simp, fun x hx y hy => by simp at hy; subst hy; exact fun e => n1 (e ▸ hx)⟩
  · intro x hx
    rcases List.mem_append.mp hx with h | h
    · exact R.st.fresh x h
    · simp at h; subst h; exact n3
  · intro i x y e1 e2
    by_cases hi : i < ι.length
    · rw [List.getElem?_append_left hi] at e1
      rw [List.getElem?_append_left (R.st.len ▸ hi)] at e2
      exact (R.st.obj i x y e1 e2).stays pre k
    · have hi' : i = ι.length := by
        have := (List.getElem?_eq_some_iff.mp e1).1
        simp at this; omega
      subst hi'
      simp at e1; subst e1
      rw [R.st.len] at e2; simp at e2; subst e2
      exact ho
  · obtain ⟨m, hn, hm⟩ := R.fr.loc
    exact ⟨m, hn.keeps k, fun y v e e2 => let ⟨cv, a, b⟩ := hm y v e e2; ⟨cv, a, b.mono pre im⟩⟩
  · exact fun y v e e2 => let ⟨c, o, cv, a, b, d, f⟩ := R.fr.cel y v e e2; ⟨c, o, cv, a, k _ _ b, d, f.mono pre im⟩
  · intro x hx hm
    rcases List.mem_append.mp hm with h | h
    · exact R.fr.dis x hx h
    · simp at h; subst h; exact n2 hx
  · intro env' he
    obtain ⟨b1, L, o', b2, b3, b4, b5, b6⟩ := R.fs env' he
    refine ⟨b1, L, o', b2, k _ _ b3, b4, fun hm => ?_, b6⟩
    rcases List.mem_append.mp hm with h | h
    · exact b5 h
    · simp at h; subst h; rw [ha] at b3; cases b3
  · intro x hx
    rcases List.mem_append.mp hx with h | h
    · exact .inl h
    · simp at h; subst h; exact .inr ha

theorem Sat.alloc {b : β} {v : α} {REL : List Addr → Heap → α → β → Prop} {T : PT β} {h' : Heap} {tk : Nat} {a : Addr} {o : O} (R : Rel G A env ι q s) (k : s.heap.StaysIn h') (ha : s.heap.get? a = none)
    (ho : ORel G (ι ++ [a]) h' a o) (hR : REL (ι ++ [a]) h' v b) (hT : ∀ Q E, Q b { s with heap := h', toks := tk } → T Q E s) : Sat G A env ι s (.ok v { q with H := q.H ++ [o] }) REL T :=
  fun _ _ x => hT _ _ (x _ b _ (Post.alloc R k ha ho) hR)

/-- an abstract object changed in place -/
theorem Post.set (R : Rel G A env ι q s) {h' : Heap} {tk : Nat} {i : Nat} {a : Addr} {o' : O} (hi : ι[i]? = some a) (hs : Heap.SameBut a s.heap h') (im : Imm s.heap h' → ORel G ι h' a o') :
    Post G A env ι s ι { q with H := q.H.set i o' } { s with heap := h', toks := tk } := by
  have ha : a ∈ ι := List.mem_of_getElem? hi
  obtain ⟨oa, ea, hma⟩ := R.st.mut ha
  have ext := hs.extBut
  have ne : ∀ b o, s.heap.get? b = some o → b ∉ ι → h'.get? b = some o := fun b o e hb => ext b o (fun q => hb (q ▸ ha)) e
  have im' := R.imm' (h' := h') fun b o e hW => ⟨o.slots, ne b o e fun x => hW (List.mem_append_right _ x)⟩
  have im := im im'
  have kp : Kp (own env ++ ι) (frs A) s.heap h' := ⟨fun b o e => by
      by_cases hb : b = a
      · subst hb; exact im.there
      · exact ⟨o, ext b o hb e⟩, fun b o e hW => ⟨o.slots, ne b o e fun x => hW (List.mem_append_right _ x)⟩, fun b o e hW _ => ne b o e fun x => hW (List.mem_append_right _ x)⟩
  have pr : ι <+: ι := List.prefix_refl _
  refine ⟨pr, ⟨⟨?_, by simp [R.st.len], R.st.nodup, R.st.fresh, ?_⟩, ⟨R.fr.kind, R.fr.glob, R.fr.blt, ?_, ?_, ?_, R.fr.ndup, R.fr.dis, R.fr.fresh⟩, ?_, R.gens, R.os⟩, kp, fun _ h => .inl h⟩
  · intro b o e
    exact ext b o (fun q => by rw [q, R.st.fresh a ha] at e; cases e) (R.st.keep b o e)
  · intro j x y e1 e2
    dsimp only at e2
    by_cases hj : i = j
    · subst hj
      rw [hi] at e1; cases e1
      have : i < q.H.length := R.st.len ▸ (List.getElem?_eq_some_iff.mp hi).1
      rw [List.getElem?_set_self this] at e2; cases e2
      exact im
    · rw [List.getElem?_set_ne hj] at e2
      refine (R.st.obj j x y e1 e2).at pr im' fun o e => ext x o (fun q => hj ?_) e
      subst q
      exact nodup_inj R.st.nodup hi e1
  · obtain ⟨m, hn, hm⟩ := R.fr.loc
    have hL : env.locals ≠ a := fun q => R.fr.dis env.locals (.head _) (q ▸ ha)
    exact ⟨m, hn.extBut ext hL, fun y v e e2 => let ⟨cv, a, b⟩ := hm y v e e2; ⟨cv, a, b.mono pr im'⟩⟩
  · intro y v e e2
    obtain ⟨c, o, cv, h1, h2, h3, h4⟩ := R.fr.cel y v e e2
    have hc : c ∈ own env := List.mem_cons_of_mem _ (List.mem_map.mpr ⟨_, mem_of_lookup h1, rfl⟩)
    exact ⟨c, o, cv, h1, ne c o h2 (R.fr.dis c hc), h3, h4.mono pr im'⟩
  · intro p hp
    obtain ⟨o, ov, h1, h2⟩ := R.fr.cells p hp
    exact ⟨o, ov, ne p.2 o h1 (R.fr.dis p.2 (List.mem_cons_of_mem _ (List.mem_map.mpr ⟨p, hp, rfl⟩))), h2⟩
  · intro env' he
    obtain ⟨b1, L, o', b2, b3, b4, b5, b6⟩ := R.fs env' he
    exact ⟨b1, L, o', b2, ne L o' b3 b5, b4, b5, b6⟩
where
  mem_of_lookup {α β : Type} [BEq α] [LawfulBEq α] {x : α} {y : β} : ∀ {l : List (α × β)}, l.lookup x = some y → (x, y) ∈ l
    | [], e => by simp at e
    | (a, b) :: r, e => by
      rw [List.lookup_cons] at e
      split at e
      · rename_i q; cases e; rw [eq_of_beq q]; exact .head _
      · exact .tail _ (mem_of_lookup e)

theorem Sat.set {b : β} {v : α} {REL : List Addr → Heap → α → β → Prop} {T : PT β} {h' : Heap} {tk : Nat} {i : Nat} {a : Addr} {o' : O} (R : Rel G A env ι q s) (hi : ι[i]? = some a) (hs : Heap.SameBut a s.heap h')
    (im : Imm s.heap h' → ORel G ι h' a o') (hR : Imm s.heap h' → REL ι h' v b) (hT : ∀ Q E, Q b { s with heap := h', toks := tk } → T Q E s) : Sat G A env ι s (.ok v { q with H := q.H.set i o' }) REL T := by
  have P := Post.set (tk := tk) R hi hs im
  exact fun _ _ x => hT _ _ (x _ b _ P (hR (R.imm P.kp)))
end
end Mine

set_option Elab.async false
set_option linter.unusedVariables false
namespace Mine
open PySem PySem.W PyProof.Rows

section
variable {G : Cx} {hq : Bool} {k : Nat} {env : Env}

/-! ### names and constants -/
noncomputable def getV (x : String) : Cm V := fun q => match q.l x with | some v => .ok v q | none => .stuck

theorem E_loc {x : String} {pos : Pos} (hx : env.kindOf (Str.ofString x) = some .local) (hd : (Str.ofString x == ("__debug__" : Str)) = false) : Ev G hq k env (.Name (Str.ofString x) pos) (getV x) := by
  intro A ι q s ha R
  unfold getV
  cases h : q.l x with
  | none => trivial
  | some v =>
    obtain ⟨m, hn, hm⟩ := R.fr.loc
    obtain ⟨cv, h1, h2⟩ := hm x v h hx
    exact Sat.ret0 R h2 fun Q E hQ => wpAny_Name (wpAny_loadName_local R.fr.kind hx hn h1 hQ) hd
theorem E_int {i : Int} {kk : Nat} {pos : Pos} : Ev G hq k env (.Constant (.int i) kk pos) (.pur (.int i)) :=
  fun _ _ _ _ _ R => Sat.ret R ⟨_, rfl⟩ fun _ _ hQ => wpAny_Constant_int hQ
theorem E_none {kk : Nat} {pos : Pos} : Ev G hq k env (.Constant .none kk pos) (.pur .none) :=
  fun _ _ _ _ _ R => Sat.ret0 R vNone fun _ _ hQ => wpAny_Constant_none hQ
theorem E_bool {b : Bool} {kk : Nat} {pos : Pos} : Ev G hq k env (.Constant (.bool b) kk pos) (.pur (.bool b)) :=
  fun _ _ _ _ _ R => Sat.ret0 R (vBool b) fun _ _ hQ => wpAny_Constant_bool hQ
theorem E_str {x : String} {kk : Nat} {pos : Pos} : Ev G hq k env (.Constant (.str (Str.ofString x)) kk pos) (.pur (.str x)) :=
  fun _ _ _ _ _ R => Sat.ret R ⟨_, rfl⟩ fun _ _ hQ => wpAny_Constant_str hQ

/-- a global name bound to an int -/
theorem E_gint (C : CxOk G) {x : String} {i : Int} {t : Tok} {pos : Pos} (hx : env.kindOf (Str.ofString x) = some .globalImplicit) (hv : nsIn G.K mainGlobals (Str.ofString x) = some (some (.int i t)))
    (hd : (Str.ofString x == ("__debug__" : Str)) = false) : Ev G hq k env (.Name (Str.ofString x) pos) (.pur (.int i)) :=
  fun _ _ _ _ _ R => Sat.ret0 R ⟨t, rfl⟩ fun _ _ hQ => Calls.Name_function_global R.fr.kind hx
    (Calls.loadGlobal_global (by rw [R.fr.glob]; exact C.g.keeps R.st.keep) (mg_of C.X C.g hv) hQ) hd

/-- loading a global by its written value, as a step -/
theorem glob_load (C : CxOk G) {A : Around} {ι : List Addr} {q : S} {s : Shared} (R : Rel G A env ι q s) {x : Str} {v : Value} {pos : Pos} (hx : env.kindOf x = some .globalImplicit) (hv : nsIn G.K mainGlobals x = some (some v))
    (hd : (x == ("__debug__" : Str)) = false) {Q : Value → Shared → Prop} {E : Value → Shared → Prop} (h : Q v s) : wpAny G.M A (eval (.Name x pos) env) Q E s :=
  Calls.Name_function_global R.fr.kind hx (Calls.loadGlobal_global (by rw [R.fr.glob]; exact C.g.keeps R.st.keep) (mg_of C.X C.g hv) h) hd
theorem blt_load (C : CxOk G) {A : Around} {ι : List Addr} {q : S} {s : Shared} (R : Rel G A env ι q s) {x : Str} {v : Value} {pos : Pos} (hx : env.kindOf x = some .globalImplicit) (hv : nsIn G.K mainGlobals x = some none)
    (hb : bootBuiltins x = some v) (hn : x ≠ "__name__") (hd : (x == ("__debug__" : Str)) = false) {Q : Value → Shared → Prop} {E : Value → Shared → Prop} (h : Q v s) : wpAny G.M A (eval (.Name x pos) env) Q E s :=
  Calls.Name_function_global R.fr.kind hx (Calls.loadGlobal_builtin (by rw [R.fr.glob]; exact C.g.keeps R.st.keep) (mg_none_of C.X C.g hv)
    (by rw [R.fr.blt]; exact C.b.keeps R.st.keep) ((C.bt x hn).trans hb) h) hd

/-! ### operators -/
abbrev Prim2 (G : Cx) (T : Around → Value → Value → PT Value) (f : V → V → Cm V) : Prop :=
  ∀ A env ι q s a b ca cb, CxOk G → (∃ hq k, AOk hq k A env) → Rel G A env ι q s → VRel G ι s.heap a ca → VRel G ι s.heap b cb → Sat G A env ι s (f a b q) (VRel G) (T A ca cb)

theorem E_bin (C : CxOk G) {l r : Expr} {op : Operator} {pos : Pos} {m1 m2 : Cm V} {f : V → V → Cm V} (h1 : Ev G hq k env l m1) (h2 : Ev G hq k env r m2)
    (hf : Prim2 G (fun A a b => wpT G A (binaryOp op a b)) f) : Ev G hq k env (.BinOp l op r pos) (m1.bnd fun a => m2.bnd fun b => f a b) :=
  fun A ι q s ha R => (Sat.bnd (h1 A ι q s ha R) fun a q' ι' b s' _ P hv => Sat.bnd (T' := fun b' Q E s₂ => wpAny G.M A (binaryOp op b b') Q E s₂) (h2 A ι' q' s' ha P.rel) fun a2 q2 ι2 b2 s2 _ P2 hv2 =>
    hf A env ι2 q2 s2 a a2 b b2 C ⟨_, _, ha⟩ P2.rel (P2.vrel P.rel hv) hv2).imp fun Q E x => wpAny_BinOp x

theorem AOk.pylong (C : CxOk G) {A : Around} {ι : List Addr} {q : S} {s : Shared} (ha : ∃ hq k, AOk hq k A env) (R : Rel G A env ι q s) : PylongRoom G.M A s := by
  obtain ⟨hq, k, ha⟩ := ha
  obtain ⟨fenv, rest, h1, h2, h3, h4, h5, h6⟩ := ha.fr
  refine PylongRoom.of (C.lim.keeps R.st.keep) ?_ (SeerAt.of (C.seer.keeps R.st.keep) C.tree h1 h3 h4 h5 h6)
  have := ha.depth
  have : Builtin.pylongFrames ≤ 150 := by decide
  show A.depth + Builtin.pylongFrames < 1000
  omega

noncomputable def addV : V → V → Cm V
  | .int i, .int j => .pur (.int (i + j))
  | .str x, .str y => if x.length + y.length ≤ 100000 then .pur (.str (x ++ y)) else .stk
  | .ref i, .ref j => fun q => match q.H[i]?, q.H[j]? with
    | some (.list xs), some (.list ys) => if xs.length + ys.length ≤ 1000000 then .ok (.ref q.H.length) { q with H := q.H ++ [.list (xs ++ ys)] } else .stuck
    | _, _ => .stuck
  | _, _ => .stk
noncomputable def subV : V → V → Cm V
  | .int i, .int j => .pur (.int (i - j))
  | _, _ => .stk
noncomputable def divV : V → V → Cm V
  | .int i, .int j => if j = 0 then .stk else .pur (.int (i.fdiv j))
  | _, _ => .stk
noncomputable def modV : V → V → Cm V
  | .int i, .int j => if j = 0 then .stk else .pur (.int (i.fmod j))
  | _, _ => .stk
theorem P_sub : Prim2 G (fun A a b => wpT G A (binaryOp .Sub a b)) subV := by
  intro A env ι q s a b ca cb C ha R h1 h2
  unfold subV
  split
  · obtain ⟨t, rfl⟩ := h1; obtain ⟨u, rfl⟩ := h2
    exact Sat.ret R ⟨_, rfl⟩ fun Q E hQ => P.sub_int hQ
  · trivial
theorem P_div : Prim2 G (fun A a b => wpT G A (binaryOp .FloorDiv a b)) divV := by
  intro A env ι q s a b ca cb C ha R h1 h2
  unfold divV
  split
  · obtain ⟨t, rfl⟩ := h1; obtain ⟨u, rfl⟩ := h2
    split
    · trivial
    · exact Sat.ret R ⟨_, rfl⟩ fun Q E hQ => floordiv_int (by assumption) hQ (.inr (AOk.pylong C ha R))
  · trivial
theorem P_mod : Prim2 G (fun A a b => wpT G A (binaryOp .Mod a b)) modV := by
  intro A env ι q s a b ca cb C ha R h1 h2
  unfold modV
  split
  · obtain ⟨t, rfl⟩ := h1; obtain ⟨u, rfl⟩ := h2
    split
    · trivial
    · exact Sat.ret R ⟨_, rfl⟩ fun Q E hQ => mod_int' (by assumption) hQ
  · trivial
theorem StOk.list {ι : List Addr} {H : Hp} {h : Heap} (x : StOk G ι H h) {i : Nat} {xs : List V} (e : H[i]? = some (.list xs)) : ∃ a n vs, ι[i]? = some a ∧ IsL h a (List.toArray vs) n ∧ VRels G ι h xs vs := by
  have hi : i < ι.length := x.len ▸ (List.getElem?_eq_some_iff.mp e).1
  obtain ⟨vs, ⟨n, h1⟩, h2⟩ := x.obj i ι[i] _ (by simp) e
  exact ⟨ι[i], n, vs, by simp, h1, h2⟩
theorem StOk.dict {ι : List Addr} {H : Hp} {h : Heap} (x : StOk G ι H h) {i : Nat} {es : List (Int × V)} (e : H[i]? = some (.dict es)) : ∃ a kvs, ι[i]? = some a ∧ h.DictOf (intKind G.prog G.w) a kvs ∧ DRel G ι h es kvs := by
  have hi : i < ι.length := x.len ▸ (List.getElem?_eq_some_iff.mp e).1
  obtain ⟨kvs, h1, h2⟩ := x.obj i ι[i] _ (by simp) e
  exact ⟨ι[i], kvs, by simp, h1, h2⟩
theorem StOk.flds {ι : List Addr} {H : Hp} {h : Heap} (x : StOk G ι H h) {i : Nat} {fs : List (String × V)} (e : H[i]? = some (.flds fs)) : ∃ a es n, ι[i]? = some a ∧ h.get? a = some (dictOf es n) ∧ FRel G ι h fs es := by
  have hi : i < ι.length := x.len ▸ (List.getElem?_eq_some_iff.mp e).1
  obtain ⟨es, n, h1, h2⟩ := x.obj i ι[i] _ (by simp) e
  exact ⟨ι[i], es, n, by simp, h1, h2⟩
theorem push_stays (h : Heap) (o : Obj) : h.StaysIn (h.push o) := fun _ _ e => Heap.get?_push_of_some _ e
theorem vRef_new {ι : List Addr} {H : Hp} {h h' : Heap} (x : StOk G ι H h) (a : Addr) : VRel G (ι ++ [a]) h' (.ref H.length) (.ref a) := ⟨a, by rw [← x.len]; simp, rfl⟩

/-- a new list -/
theorem Sat.newList {β : Type} {A : Around} {ι : List Addr} {q : S} {s : Shared} {T : PT Value} {tk : Nat} {xs : List V} {vs : List Value} (R : Rel G A env ι q s) (hx : VRels G ι s.heap xs vs)
    (hT : ∀ Q E, Q (.ref s.heap.objs.size) { s with heap := s.heap.push { cls := .type "list", data := .seq vs.toArray }, toks := tk } → T Q E s) :
    Sat G A env ι s (.ok (.ref q.H.length) { q with H := q.H ++ [.list xs] }) (VRel G) T :=
  Sat.alloc R (push_stays _ _) (Heap.get?_none_of_le (Nat.le_refl _)) ⟨vs, ⟨0, Heap.get?_push_size _ rfl⟩, hx.mono (List.prefix_append _ _) (.of_stays (push_stays _ _))⟩ (vRef_new R.st _) hT

theorem ofString_append (x y : String) : Str.ofString x ++ Str.ofString y = Str.ofString (x ++ y) := by
  rw [Str.ofString_eq_toList, Str.ofString_eq_toList, Str.ofString_eq_toList, String.toList_append, List.map_append]
  apply Str.ext'
  show _ ++ _ = _
  simp
theorem ofString_inj {x y : String} (h : Str.ofString x = Str.ofString y) : x = y := by
  rw [Str.ofString_eq_toList, Str.ofString_eq_toList] at h
  have h1 : (x.toList.map Char.toNat) = (y.toList.map Char.toNat) := by simpa using congrArg (fun z : Str => z.cps.toList) h
  have h2 : x.toList = y.toList := by
    refine (List.map_inj_right ?_).mp h1
    intro a b e
    exact Char.ext (UInt32.toNat.inj e)
  exact String.toList_injective h2

theorem P_add : Prim2 G (fun A a b => wpT G A (binaryOp .Add a b)) addV := by
  intro A env ι q s a b ca cb C ha R h1 h2
  unfold addV
  split
  · obtain ⟨t, rfl⟩ := h1; obtain ⟨u, rfl⟩ := h2
    exact Sat.ret R ⟨_, rfl⟩ fun Q E hQ => P.add_int hQ
  · rename_i x y
    obtain ⟨t, rfl⟩ := h1; obtain ⟨u, rfl⟩ := h2
    split
    · rename_i hl
      intro Q E hQ
      refine add_str (fun t' tk => ?_) (by rw [PySem.ofString_length, PySem.ofString_length, sizeLine_eq]; omega)
      rw [ofString_append]
      exact hQ ι _ _ (Post.toks R tk) ⟨t', rfl⟩
    · trivial
  · rename_i i j
    obtain ⟨x, hx, rfl⟩ := h1; obtain ⟨y, hy, rfl⟩ := h2
    dsimp only
    split
    · rename_i xs ys e1 e2
      split
      · rename_i hl
        obtain ⟨a1, n1, vs, g1, g2, g3⟩ := R.st.list e1
        obtain ⟨a2, n2, ws, k1, k2, k3⟩ := R.st.list e2
        obtain rfl : x = a1 := Option.some.inj (hx.symm.trans g1)
        obtain rfl : y = a2 := Option.some.inj (hy.symm.trans k1)
        refine Sat.newList (β := Value) (tk := s.toks) R (g3.append k3) fun Q E hQ => P.add_list g2 k2 ?_ ?_
        · simpa using hQ
        · rw [List.size_toArray, List.size_toArray, g3.length, k3.length, sizeLine_eq]; omega
      · trivial
    · trivial
  · trivial

end
end Mine

set_option Elab.async false
set_option linter.unusedVariables false
namespace Mine
open PySem PySem.W PyProof.Rows

/-! ### values as plain data; equality -/
noncomputable def mapO {α β : Type} (f : α → Option β) : List α → Option (List β)
  | [] => some []
  | x :: xs => (f x).bind fun d => (mapO f xs).map (d :: ·)
noncomputable def toD (H : Hp) : Nat → V → Option PyData
  | 0, _ => none
  | n + 1, v => match v with
    | .none => some .none
    | .bool b => some (.bool b)
    | .int i => some (.int i)
    | .str x => some (.str (Str.ofString x))
    | .tup xs => (mapO (toD H n) xs).map .tuple
    | .ref i => match H[i]? with
      | some (.list xs) => (mapO (toD H n) xs).map .list
      | _ => none
    | _ => none

section
variable {G : Cx} {hq : Bool} {k : Nat} {env : Env} {A : Around} {ι : List Addr} {q : S} {s : Shared} {H : Hp} {h : Heap}

theorem readsAll_of {n : Nat} (ih : ∀ {v : V} {cv : Value} {d : PyData}, VRel G ι h v cv → toD H n v = some d → ∃ as, Reads h cv d as) :
    ∀ {xs : List V} {vs : List Value} {ds : List PyData}, VRels G ι h xs vs → mapO (toD H n) xs = some ds → ∃ as, ReadsAll h vs ds as
  | [], _, _, x, e => by rw [show _ = [] from x]; cases e; exact ⟨_, .nil⟩
  | v :: xs, _, _, ⟨cv, vs', q, a, b⟩, e => by
    subst q
    obtain ⟨d, h1, h2⟩ := Option.bind_eq_some_iff.mp e
    obtain ⟨ds, h3, rfl⟩ := Option.map_eq_some_iff.mp h2
    obtain ⟨as, r1⟩ := ih a h1
    obtain ⟨bs, r2⟩ := readsAll_of ih b h3
    exact ⟨_, .cons r1 r2⟩

theorem reads_of (x : StOk G ι H h) : ∀ {n : Nat} {v : V} {cv : Value} {d : PyData}, VRel G ι h v cv → toD H n v = some d → ∃ as, Reads h cv d as
  | 0, _, _, _, _, e => by cases e
  | n + 1, v, cv, d, r, e => by
    have ih := @reads_of x n
    unfold toD at e
    cases v with
    | none => cases e; rw [show cv = .none from r]; exact ⟨_, .none⟩
    | bool b => cases e; rw [show cv = .bool b from r]; exact ⟨_, .bool b⟩
    | int i => cases e; obtain ⟨t, rfl⟩ := r; exact ⟨_, .int i t⟩
    | str y => cases e; obtain ⟨t, rfl⟩ := r; exact ⟨_, .str _ t⟩
    | tup xs =>
      obtain ⟨ds, h1, rfl⟩ := Option.map_eq_some_iff.mp e
      obtain ⟨a, vs, rfl, ⟨o, ho, hc, n', hd⟩, hv⟩ := r
      obtain ⟨as, ra⟩ := readsAll_of ih hv h1
      exact ⟨_, .tuple ho hc hd (by simpa using ra)⟩
    | ref i =>
      dsimp only at e
      split at e
      · rename_i xs hx
        obtain ⟨ds, h1, rfl⟩ := Option.map_eq_some_iff.mp e
        obtain ⟨a, n', vs, g1, g2, g3⟩ := x.list hx
        obtain ⟨a', e1, rfl⟩ := r
        obtain rfl : a' = a := Option.some.inj (e1.symm.trans g1)
        obtain ⟨as, ra⟩ := readsAll_of ih g3 h1
        exact ⟨_, .list g2 rfl rfl (by simpa using ra)⟩
      · cases e
    | inst c i => cases e
    | exc c => cases e
    | scr => cases e

noncomputable def eqD (H : Hp) (a b : V) : Option Bool := (toD H 8 a).bind fun d => (toD H 8 b).bind fun e => if SeqAt.shaped d && SeqAt.shaped e then some (PyData.eqv d e) else none
noncomputable def inD (H : Hp) (a : V) (xs : List V) : Option Bool := (toD H 8 a).bind fun d => (mapO (toD H 8) xs).bind fun ds => if SeqAt.shaped d && SeqAt.shaped (.list ds) then some (ds.any fun y => PyData.eqv y d) else none

noncomputable def eqV (a b : V) : Cm Bool := fun q => match eqD q.H a b with | some x => .ok x q | none => .stuck
noncomputable def inV (a b : V) : Cm Bool := fun q => match b with
  | .ref i => (match q.H[i]?, a with
    | some (.list xs), _ => (match inD q.H a xs with | some x => .ok x q | none => .stuck)
    | some (.dict es), .int k => .ok ((es.lookup k).isSome) q
    | _, _ => .stuck)
  | _ => .stuck
noncomputable def isNone : V → Bool
  | .none => true
  | _ => false
noncomputable def cmpV (op : CmpOp) (a b : V) : Cm Bool := match op with
  | .Eq => eqV a b
  | .NotEq => (eqV a b).bnd fun x => .pur (!x)
  | .Lt => (match a, b with | .int i, .int j => .pur (decide (i < j)) | _, _ => .stk)
  | .LtE => (match a, b with | .int i, .int j => .pur (decide (i ≤ j)) | _, _ => .stk)
  | .Gt => (match a, b with | .int i, .int j => .pur (decide (i > j)) | _, _ => .stk)
  | .GtE => (match a, b with | .int i, .int j => .pur (decide (i ≥ j)) | _, _ => .stk)
  | .Is => (match b with | .none => .pur (isNone a) | _ => .stk)
  | .IsNot => (match b with | .none => .pur (!isNone a) | _ => .stk)
  | .In => inV a b
  | .NotIn => (inV a b).bnd fun x => .pur (!x)

theorem AOk.units_lt (ha : ∃ hq k, AOk hq k A env) : A.units + 100 < cLine := by
  obtain ⟨hq, k, ha⟩ := ha
  have := ha.units
  show A.units + 100 < 9900
  omega
theorem vrel_none {v : V} {cv : Value} (r : VRel G ι h v cv) : (cv == .none) = isNone v := by
  cases v with
  | none => rw [show cv = .none from r]; rfl
  | bool b => rw [show cv = .bool b from r]; rfl
  | int i => obtain ⟨t, rfl⟩ := r; rfl
  | str y => obtain ⟨t, rfl⟩ := r; rfl
  | tup xs => obtain ⟨a, vs, rfl, _⟩ := r; rfl
  | ref i => obtain ⟨a, _, rfl⟩ := r; rfl
  | inst c i => obtain ⟨a, x, C, o, _, _, rfl, _⟩ := r; rfl
  | exc c => obtain ⟨x, C, o, _, rfl, _⟩ := r; rfl
  | scr => rw [show cv = .ref G.sa from r]; rfl

abbrev bRel : List Addr → Heap → Bool → Value → Prop := fun _ _ x cv => cv = .bool x

theorem drel_valueAt : ∀ {es : List (Int × V)} {kvs : List (Int × Value)}, DRel G ι h es kvs → ∀ (k : Int), (match es.lookup k with | some v => ∃ cv, valueAt kvs k = some cv ∧ VRel G ι h v cv | none => valueAt kvs k = none)
  | [], _, x, k => by rw [show _ = [] from x]; rfl
  | (k', v) :: es, _, ⟨cv, kvs', q, a, b⟩, k => by
    subst q
    have ih := drel_valueAt b k
    rw [List.lookup_cons]
    unfold valueAt
    by_cases e : k = k'
    · subst e; simp; exact a
    · have : (k == k') = false := by simpa using e
      rw [this]
      have e' : ¬ (k' = k) := fun x => e x.symm
      simp only [e', if_false] 
      first | exact ih | simpa [valueAt, e'] using ih

end
end Mine

set_option Elab.async false
set_option linter.unusedVariables false
namespace Mine
open PySem PySem.W PyProof.Rows

section
variable {G : Cx} {hq : Bool} {k : Nat} {env : Env} {A : Around} {ι : List Addr} {q : S} {s : Shared} {H : Hp} {h : Heap}

theorem not_modules (C : CxOk G) (R : StOk G ι H h) {a : Addr} (ha : a ∈ ι) : (a == sysModules) = false := by
  obtain ⟨mm, ⟨o, _, _, ho, _⟩, _⟩ := C.seer.mods
  refine beq_eq_false_iff_ne.mpr fun e => ?_
  have := R.fresh a ha
  rw [e, ho] at this; cases this

theorem eqD_some {a b : V} {x : Bool} (e : eqD H a b = some x) : ∃ d f, toD H 8 a = some d ∧ toD H 8 b = some f ∧ SeqAt.shaped d = true ∧ SeqAt.shaped f = true ∧ x = PyData.eqv d f := by
  obtain ⟨d, h1, e⟩ := Option.bind_eq_some_iff.mp e
  obtain ⟨f, h2, e⟩ := Option.bind_eq_some_iff.mp e
  split at e
  · rename_i h; cases e; obtain ⟨h3, h4⟩ := Bool.and_eq_true_iff.mp h; exact ⟨d, f, h1, h2, h3, h4, rfl⟩
  · cases e
theorem inD_some {a : V} {xs : List V} {x : Bool} (e : inD H a xs = some x) : ∃ d ds, toD H 8 a = some d ∧ mapO (toD H 8) xs = some ds ∧ SeqAt.shaped d = true ∧ SeqAt.shaped (.list ds) = true ∧ x = ds.any fun y => PyData.eqv y d := by
  obtain ⟨d, h1, e⟩ := Option.bind_eq_some_iff.mp e
  obtain ⟨f, h2, e⟩ := Option.bind_eq_some_iff.mp e
  split at e
  · rename_i h; cases e; obtain ⟨h3, h4⟩ := Bool.and_eq_true_iff.mp h; exact ⟨d, f, h1, h2, h3, h4, rfl⟩
  · cases e

theorem P_cmp (op : CmpOp) {a b : V} {ca cb : Value} (C : CxOk G) (ha : ∃ hq k, AOk hq k A env) (R : Rel G A env ι q s) (h1 : VRel G ι s.heap a ca) (h2 : VRel G ι s.heap b cb) :
    Sat G A env ι s (cmpV op a b q) bRel (wpT G A (compareOp op ca cb)) := by
  have hu := AOk.units_lt ha
  have hEq : ∀ {x : Bool}, eqD q.H a b = some x → ∀ {Q E}, Q (.bool x) s → wpAny G.M A (compareOp .Eq ca cb) Q E s := fun {x} e {Q E} hQ => by
    obtain ⟨d, f, e1, e2, e3, e4, rfl⟩ := eqD_some e
    obtain ⟨as, r1⟩ := reads_of R.st h1 e1
    obtain ⟨bs, r2⟩ := reads_of R.st h2 e2
    exact eq_dataH r1 r2 e3 e4 (by omega) hQ
  have hNe : ∀ {x : Bool}, eqD q.H a b = some x → ∀ {Q E}, Q (.bool (!x)) s → wpAny G.M A (compareOp .NotEq ca cb) Q E s := fun {x} e {Q E} hQ => by
    obtain ⟨d, f, e1, e2, e3, e4, rfl⟩ := eqD_some e
    obtain ⟨as, r1⟩ := reads_of R.st h1 e1
    obtain ⟨bs, r2⟩ := reads_of R.st h2 e2
    exact ne_dataH r1 r2 e3 e4 (by omega) hQ
  have hIn : ∀ {x : Bool} {q' : S}, inV a b q = .ok x q' → q' = q ∧ (∀ {Q E}, (∀ tk, Q (.bool x) { s with toks := tk }) → wpAny G.M A (compareOp .In ca cb) Q E s) ∧ (∀ {Q E}, (∀ tk, Q (.bool (!x)) { s with toks := tk }) → wpAny G.M A (compareOp .NotIn ca cb) Q E s) := by
    intro x q' e
    unfold inV at e
    split at e
    · rename_i i
      obtain ⟨ad, hi, rfl⟩ := h2
      split at e
      · rename_i xs hx
        split at e
        · rename_i y hy
          cases e
          obtain ⟨d, ds, e1, e2, e3, e4, rfl⟩ := inD_some hy
          obtain ⟨as, r1⟩ := reads_of R.st h1 e1
          obtain ⟨a1, n1, vs, g1, g2, g3⟩ := R.st.list hx
          obtain rfl : ad = a1 := Option.some.inj (hi.symm.trans g1)
          obtain ⟨bs, r2⟩ := readsAll_of (reads_of R.st) g3 e2
          have r3 : Reads s.heap (.ref ad) (.list ds) _ := .list g2 rfl rfl (by simpa using r2)
          refine ⟨rfl, fun hQ => ?_, fun hQ => ?_⟩
          · exact SeqAt.in_list_reads r3 r1 (SeqAt.canLay_of_shaped e4) (SeqAt.canLay_of_shaped e3) (room_in_shaped e3 (by omega)) (hQ s.toks)
          · exact SeqAt.notIn_list_reads r3 r1 (SeqAt.canLay_of_shaped e4) (SeqAt.canLay_of_shaped e3) (room_in_shaped e3 (by omega)) (hQ s.toks)
        · cases e
      · rename_i es k0 hx
        cases e
        obtain ⟨t, rfl⟩ := h1
        obtain ⟨a1, kvs, g1, g2, g3⟩ := R.st.dict hx
        obtain rfl : ad = a1 := Option.some.inj (hi.symm.trans g1)
        have hm := not_modules C R.st (List.mem_of_getElem? g1)
        have hv := drel_valueAt g3 k0
        have hs : (valueAt kvs k0).isSome = (es.lookup k0).isSome := by
          cases hl : es.lookup k0 with
          | none => rw [hl] at hv; rw [hv]; rfl
          | some v => rw [hl] at hv; obtain ⟨cv, hv, _⟩ := hv; rw [hv]; rfl
        refine ⟨rfl, fun hQ => ?_, fun hQ => ?_⟩
        · exact wpAny_in_of (intKind_is G.prog G.w k0 t) hm g2.mapOf (by rw [hs]; exact hQ _)
        · exact wpAny_notIn_of (intKind_is G.prog G.w k0 t) hm g2.mapOf (by rw [hs]; exact hQ _)
      · cases e
    · cases e
  unfold cmpV
  split
  · unfold eqV
    cases e : eqD q.H a b with
    | none => trivial
    | some x => exact Sat.ret0 R rfl fun Q E hQ => hEq e hQ
  · unfold eqV Cm.bnd
    cases e : eqD q.H a b with
    | none => dsimp only; rw [e]; trivial
    | some x => dsimp only; rw [e]; exact Sat.ret0 (REL := bRel) R rfl fun Q E hQ => hNe e hQ
  · split
    · obtain ⟨t, rfl⟩ := h1; obtain ⟨u, rfl⟩ := h2
      exact Sat.ret0 R rfl fun Q E hQ => P.lt_int hQ
    · trivial
  · split
    · obtain ⟨t, rfl⟩ := h1; obtain ⟨u, rfl⟩ := h2
      exact Sat.ret0 R rfl fun Q E hQ => P.le_int hQ
    · trivial
  · split
    · obtain ⟨t, rfl⟩ := h1; obtain ⟨u, rfl⟩ := h2
      exact Sat.ret0 R rfl fun Q E hQ => P.gt_int hQ
    · trivial
  · split
    · obtain ⟨t, rfl⟩ := h1; obtain ⟨u, rfl⟩ := h2
      exact Sat.ret0 R rfl fun Q E hQ => P.ge_int hQ
    · trivial
  · split
    · rw [show cb = .none from h2]
      exact Sat.ret0 R rfl fun Q E hQ => is_none (by rw [vrel_none h1]; exact hQ)
    · trivial
  · split
    · rw [show cb = .none from h2]
      exact Sat.ret0 R rfl fun Q E hQ => isNot_none (by rw [vrel_none h1]; exact hQ)
    · trivial
  · cases e : inV a b q with
    | stuck => trivial
    | exc c q' =>
      exfalso
      unfold inV at e
      (repeat' split at e) <;> cases e
    | ok x q' =>
      obtain ⟨rfl, h3, _⟩ := hIn e
      exact fun Q E hQ => h3 fun tk => hQ ι _ _ (Post.toks R tk) rfl
  · unfold Cm.bnd
    cases e : inV a b q with
    | stuck => trivial
    | exc c q' =>
      exfalso
      unfold inV at e
      (repeat' split at e) <;> cases e
    | ok x q' =>
      obtain ⟨rfl, _, h3⟩ := hIn e
      exact fun Q E hQ => h3 fun tk => hQ ι _ _ (Post.toks R tk) rfl

noncomputable def truthV : V → Cm Bool
  | .bool b => .pur b
  | _ => .stk
theorem P_truth {v : V} {cv : Value} (R : Rel G A env ι q s) (h1 : VRel G ι s.heap v cv) : Sat G A env ι s (truthV v q) (fun _ _ x y => x = y) (wpT G A (truthy cv)) := by
  unfold truthV
  split
  · rw [show cv = .bool _ from h1]; exact Sat.ret0 R rfl fun Q E hQ => wpAny_truthy_bool hQ
  · trivial
theorem P_truthB {x : Bool} {cv : Value} (R : Rel G A env ι q s) (h1 : cv = .bool x) : Sat G A env ι s (.ok x q) (fun _ _ x y => x = y) (wpT G A (truthy cv)) := by
  subst h1; exact Sat.ret0 R rfl fun Q E hQ => wpAny_truthy_bool hQ

theorem E_cmp (C : CxOk G) {l r : Expr} {op : CmpOp} {pos : Pos} {m1 m2 : Cm V} (h1 : Ev G hq k env l m1) (h2 : Ev G hq k env r m2) (hm : behindInMarks op r = false) :
    Ev G hq k env (.Compare l [op] [r] pos) (m1.bnd fun a => m2.bnd fun b => (cmpV op a b).bnd fun x => .pur (.bool x)) :=
  fun A ι q s ha R => (Sat.bnd (h1 A ι q s ha R) fun a q' ι' b s' _ P hv => Sat.bnd (T' := fun b' Q E s₂ => wpAny G.M A (compareOp op b b') Q E s₂) (h2 A ι' q' s' ha P.rel) fun a2 q2 ι2 b2 s2 _ P2 hv2 =>
    (Sat.bnd (T' := fun c Q E s => Q c s) (P_cmp op C ⟨_, _, ha⟩ P2.rel (P2.vrel P.rel hv) hv2) fun x q3 ι3 c s3 _ P3 hc => Sat.ret0 P3.rel (hc ▸ vBool x) fun Q E hQ => hQ)).imp fun Q E x => wpAny_Compare1 x hm

theorem T_cmp (C : CxOk G) {l r : Expr} {op : CmpOp} {pos : Pos} {m1 m2 : Cm V} (h1 : Ev G hq k env l m1) (h2 : Ev G hq k env r m2) (hm : behindInMarks op r = false) :
    Tr G hq k env (.Compare l [op] [r] pos) (m1.bnd fun a => m2.bnd fun b => (cmpV op a b).bnd fun x => .pur x) :=
  fun A ι q s ha R => (Sat.bnd (h1 A ι q s ha R) fun a q' ι' b s' _ P hv => Sat.bnd (T' := fun b' Q E s₂ => wpAny G.M A (compareOp op b b') (fun c s₃ => wpAny G.M A (truthy c) Q E s₃) E s₂) (h2 A ι' q' s' ha P.rel) fun a2 q2 ι2 b2 s2 _ P2 hv2 =>
    (Sat.bnd (T' := fun c Q E s => wpAny G.M A (truthy c) Q E s) (P_cmp op C ⟨_, _, ha⟩ P2.rel (P2.vrel P.rel hv) hv2) fun x q3 ι3 c s3 _ P3 hc => P_truthB P3.rel hc)).imp fun Q E x => wpAny_isTrue_Compare1 x hm

theorem T_cmp2 (C : CxOk G) {l r1 r2 : Expr} {o1 o2 : CmpOp} {pos : Pos} {m0 m1 m2 : Cm V} (h0 : Ev G hq k env l m0) (h1 : Ev G hq k env r1 m1) (h2 : Ev G hq k env r2 m2) (hm : lastMarks [o1, o2] [r1, r2] = false) :
    Tr G hq k env (.Compare l [o1, o2] [r1, r2] pos) (m0.bnd fun a => m1.bnd fun b => (cmpV o1 a b).bnd fun x => if x then m2.bnd fun c => (cmpV o2 b c).bnd fun y => .pur y else .pur false) := by
  intro A ι q s ha R
  refine (Sat.bnd (T' := fun a Q E s₁ => wpAny G.M A (eval r1 env) (fun b s₁ => wpAny G.M A (compareOp o1 a b) (fun c s₂ => wpAny G.M A (truthy c)
      (fun t s₃ => if t then wpAny G.M A (testChain pos b [o2] [eval r2 env]) Q E s₃ else Q false s₃) E s₂) E s₁) E s₁) (h0 A ι q s ha R) fun a q' ι' b s' _ P hv => ?_).imp fun Q E x => isTrue_chain (wpAny_mono x (fun a s₁ y => test_link y) fun _ _ y => y) hm
  refine Sat.bnd (T' := fun b' Q E s₁ => wpAny G.M A (compareOp o1 b b') (fun c s₂ => wpAny G.M A (truthy c)
      (fun t s₃ => if t then wpAny G.M A (testChain pos b' [o2] [eval r2 env]) Q E s₃ else Q false s₃) E s₂) E s₁) (h1 A ι' q' s' ha P.rel) fun a2 q2 ι2 b2 s2 _ P2 hv2 => ?_
  refine Sat.bnd (T' := fun c Q E s₂ => wpAny G.M A (truthy c) (fun t s₃ => if t then wpAny G.M A (testChain pos b2 [o2] [eval r2 env]) Q E s₃ else Q false s₃) E s₂) (P_cmp o1 C ⟨_, _, ha⟩ P2.rel (P2.vrel P.rel hv) hv2) fun x q3 ι3 c s3 _ P3 hc => ?_
  subst hc
  cases x with
  | false => exact Sat.ret0 P3.rel rfl fun Q E hQ => wpAny_truthy_bool hQ
  | true =>
    refine (Sat.bnd (T' := fun c' Q E s₁ => wpAny G.M A (compareOp o2 b2 c') (fun d s₂ => wpAny G.M A (truthy d) Q E s₂) E s₁) (h2 A ι3 q3 s3 ha P3.rel) fun a4 q4 ι4 b4 s4 _ P4 hv4 => ?_).imp fun Q E y => wpAny_truthy_bool (test_last y)
    exact Sat.bnd (T' := fun c Q E s => wpAny G.M A (truthy c) Q E s) (P_cmp o2 C ⟨_, _, ha⟩ P4.rel (P4.vrel P3.rel (P3.vrel P2.rel hv2)) hv4) fun x q5 ι5 c s5 _ P5 hc => P_truthB P5.rel hc

theorem E_cmp2 (C : CxOk G) {l r1 r2 : Expr} {o1 o2 : CmpOp} {pos : Pos} {m0 m1 m2 : Cm V} (h0 : Ev G hq k env l m0) (h1 : Ev G hq k env r1 m1) (h2 : Ev G hq k env r2 m2) (hm : lastMarks [o1, o2] [r1, r2] = false) :
    Ev G hq k env (.Compare l [o1, o2] [r1, r2] pos) (m0.bnd fun a => m1.bnd fun b => (cmpV o1 a b).bnd fun x => if x then m2.bnd fun c => (cmpV o2 b c).bnd fun y => .pur (.bool y) else .pur (.bool false)) := by
  intro A ι q s ha R
  refine (Sat.bnd (T' := fun a Q E s₁ => wpAny G.M A (eval r1 env) (fun b s₁ => wpAny G.M A (compareOp o1 a b) (fun c s₂ => wpAny G.M A (truthy c)
      (fun t s₃ => if t then wpAny G.M A (compareChain pos b [o2] [eval r2 env]) Q E s₃ else Q c s₃) E s₂) E s₁) E s₁) (h0 A ι q s ha R) fun a q' ι' b s' _ P hv => ?_).imp fun Q E x => Compare_chain (wpAny_mono x (fun a s₁ y => chain_link y) fun _ _ y => y) hm
  refine Sat.bnd (T' := fun b' Q E s₁ => wpAny G.M A (compareOp o1 b b') (fun c s₂ => wpAny G.M A (truthy c)
      (fun t s₃ => if t then wpAny G.M A (compareChain pos b' [o2] [eval r2 env]) Q E s₃ else Q c s₃) E s₂) E s₁) (h1 A ι' q' s' ha P.rel) fun a2 q2 ι2 b2 s2 _ P2 hv2 => ?_
  refine Sat.bnd (T' := fun c Q E s₂ => wpAny G.M A (truthy c) (fun t s₃ => if t then wpAny G.M A (compareChain pos b2 [o2] [eval r2 env]) Q E s₃ else Q c s₃) E s₂) (P_cmp o1 C ⟨_, _, ha⟩ P2.rel (P2.vrel P.rel hv) hv2) fun x q3 ι3 c s3 _ P3 hc => ?_
  subst hc
  cases x with
  | false => exact Sat.ret0 P3.rel (vBool false) fun Q E hQ => wpAny_truthy_bool hQ
  | true =>
    refine (Sat.bnd (T' := fun c' Q E s₁ => wpAny G.M A (compareOp o2 b2 c') Q E s₁) (h2 A ι3 q3 s3 ha P3.rel) fun a4 q4 ι4 b4 s4 _ P4 hv4 => ?_).imp fun Q E y => wpAny_truthy_bool (chain_last y)
    exact Sat.bnd (T' := fun c Q E s => Q c s) (P_cmp o2 C ⟨_, _, ha⟩ P4.rel (P4.vrel P3.rel (P3.vrel P2.rel hv2)) hv4) fun x q5 ι5 c s5 _ P5 hc => Sat.ret0 P5.rel (hc ▸ vBool x) fun Q E hQ => hQ

theorem T_not {x : Expr} {pos : Pos} {m : Cm Bool} (h1 : Tr G hq k env x m) : Tr G hq k env (.UnaryOp .Not x pos) (m.bnd fun b => .pur (!b)) :=
  fun A ι q s ha R => (Sat.bnd (T' := fun b Q E s₁ => Q (!b) s₁) (h1 A ι q s ha R) fun a q' ι' b s' _ P hv => Sat.ret0 P.rel (hv ▸ rfl) fun Q E hQ => hQ).imp fun Q E x => wpAny_isTrue_Not x
theorem E_not {x : Expr} {pos : Pos} {m : Cm V} (h1 : Ev G hq k env x m) : Ev G hq k env (.UnaryOp .Not x pos) (m.bnd fun v => (truthV v).bnd fun b => .pur (.bool (!b))) :=
  fun A ι q s ha R => (Sat.bnd (T' := fun v Q E s₁ => wpAny G.M A (truthy v) (fun b s₁ => Q (.bool (!b)) s₁) E s₁) (h1 A ι q s ha R) fun a q' ι' b s' _ P hv =>
    Sat.bnd (T' := fun b Q E s₁ => Q (Value.bool (!b)) s₁) (P_truth P.rel hv) fun a2 q2 ι2 b2 s2 _ P2 hv2 => by subst hv2; exact Sat.ret0 P2.rel (vBool _) fun Q E hQ => hQ).imp fun Q E x => wpAny_UnaryOp (wpAny_mono x (fun v s₁ y => not_value y) fun _ _ y => y)
noncomputable def negV : V → Cm V
  | .int i => .pur (.int (-i))
  | _ => .stk
theorem E_neg {x : Expr} {pos : Pos} {m : Cm V} (h1 : Ev G hq k env x m) : Ev G hq k env (.UnaryOp .USub x pos) (m.bnd fun v => negV v) :=
  fun A ι q s ha R => (Sat.bnd (T' := fun v Q E s₁ => wpAny G.M A (unaryOp .USub v) Q E s₁) (h1 A ι q s ha R) fun a q' ι' b s' _ P hv => by
    cases a with
    | int i => obtain ⟨t, rfl⟩ := hv; exact Sat.ret P.rel (vInt _ _) fun Q E hQ => PySem.P.neg_int hQ
    | _ => trivial).imp fun Q E x => wpAny_UnaryOp x
theorem T_val {e : Expr} {m : Cm V} (h1 : Ev G hq k env e m) (he : isTrue e env (eval e env) = (do let v ← eval e env; standAt e.pos; holding [v] (truthy v))) : Tr G hq k env e (m.bnd fun v => truthV v) :=
  fun A ι q s ha R => (Sat.bnd (T' := fun v Q E s₁ => wpAny G.M A (truthy v) Q E s₁) (h1 A ι q s ha R) fun a q' ι' b s' _ P hv => P_truth P.rel hv).imp fun Q E x => wpAny_isTrue_value x he

abbrev TrA (G : Cx) (hq : Bool) (k : Nat) (env : Env) (op : BoolOp) (es : List Expr) (m : Cm Bool) : Prop := Sem.Is G hq k env (fun A => wpT G A (allTrue op es env)) m (fun _ _ a b => a = b)
theorem TA_or0 : TrA G hq k env .Or [] (.pur false) := fun A ι q s ha R => Sat.ret0 R rfl fun Q E hQ => wpAny_allTrue_Or_nil hQ
theorem TA_or {x : Expr} {es : List Expr} {m m' : Cm Bool} (h1 : Tr G hq k env x m) (h2 : TrA G hq k env .Or es m') : TrA G hq k env .Or (x :: es) (m.bnd fun b => if b then .pur true else m') :=
  fun A ι q s ha R => (Sat.bnd (T' := fun b Q E s₁ => if b then Q true s₁ else wpAny G.M A (allTrue .Or es env) Q E s₁) (h1 A ι q s ha R) fun a q' ι' b s' _ P hv => by
    subst hv
    cases a with
    | true => exact Sat.ret0 P.rel rfl fun Q E hQ => hQ
    | false => exact (h2 A ι' q' s' ha P.rel).imp fun Q E x => x).imp fun Q E x => wpAny_allTrue_Or_cons x
theorem T_bool {op : BoolOp} {es : List Expr} {pos : Pos} {m : Cm Bool} (h1 : TrA G hq k env op es m) : Tr G hq k env (.BoolOp op es pos) m :=
  fun A ι q s ha R => (h1 A ι q s ha R).imp fun Q E x => wpAny_isTrue_BoolOp x

abbrev EvB (G : Cx) (hq : Bool) (k : Nat) (env : Env) (op : BoolOp) (es : List Expr) (m : Cm V) : Prop := ∀ pos, Sem.Is G hq k env (fun A => wpT G A (boolOp pos op (evalEach es env))) m (VRel G)
theorem EB_one {op : BoolOp} {e : Expr} {m : Cm V} (h1 : Ev G hq k env e m) : EvB G hq k env op [e] m := fun pos A ι q s ha R => (h1 A ι q s ha R).imp fun Q E x => x
theorem EB_and {x y : Expr} {es : List Expr} {m m' : Cm V} (h1 : Ev G hq k env x m) (h2 : EvB G hq k env .And (y :: es) m') :
    EvB G hq k env .And (x :: y :: es) (m.bnd fun v => (truthV v).bnd fun b => if b then m' else .pur v) := fun pos A ι q s ha R => by
  refine (Sat.bnd (T' := fun v Q E s₁ => wpAny G.M A (truthy v) (fun t s₂ => if t then wpAny G.M A (boolOp pos .And (evalEach (y :: es) env)) Q E s₂ else Q v s₂) E s₁) (h1 A ι q s ha R) fun a q' ι' b s' _ P hv =>
    Sat.bnd (T' := fun t Q E s₂ => if t then wpAny G.M A (boolOp pos .And (evalEach (y :: es) env)) Q E s₂ else Q b s₂) (P_truth P.rel hv) fun a2 q2 ι2 b2 s2 _ P2 hv2 => ?_).imp fun Q E x => ?_
  · subst hv2
    cases a2 with
    | true => exact (h2 pos A ι2 q2 s2 ha P2.rel).imp fun Q E x => x
    | false => exact Sat.ret0 P2.rel (P2.vrel P.rel hv) fun Q E hQ => hQ
  · show wpAny G.M A (do
      let v ← eval _ env
      standAt pos
      let t ← holding [v] (truthy v)
      match BoolOp.And, t with
      | .And, false | .Or, true => pure v
      | _, _ => boolOp pos .And (evalEach (y :: es) env)) Q E s
    refine wpAny_bind (wpAny_mono x (fun v s₁ h₁ => wpAny_bind (wpAny_standAt (wpAny_bind (wpAny_holding (wpAny_mono h₁ (fun t s₂ h₂ => ?_) fun _ _ x => x))))) fun _ _ x => x)
    cases t with
    | false => exact wpAny_pure h₂
    | true => exact h₂
theorem E_boolop {op : BoolOp} {es : List Expr} {pos : Pos} {m : Cm V} (h1 : EvB G hq k env op es m) : Ev G hq k env (.BoolOp op es pos) m :=
  fun A ι q s ha R => (h1 pos A ι q s ha R).imp fun Q E x => x
end
end Mine

set_option Elab.async false
set_option linter.unusedVariables false
namespace Mine
open PySem PySem.W PyProof.Rows

section
variable {G : Cx} {hq : Bool} {k : Nat} {env : Env} {A : Around} {ι : List Addr} {q : S} {s : Shared} {H : Hp} {h : Heap}

theorem mem_of_lookup {α β : Type} [BEq α] [LawfulBEq α] {x : α} {y : β} : ∀ {l : List (α × β)}, l.lookup x = some y → (x, y) ∈ l
    | [], e => by simp at e
    | (a, b) :: r, e => by
      rw [List.lookup_cons] at e
      split at e
      · rename_i q; cases e; rw [eq_of_beq q]; exact .head _
      · exact .tail _ (mem_of_lookup e)

/-- an own object of the frame (its names, a cell) changes -/
theorem Post.ownChange (R : Rel G A env ι q s) {h' : Heap} {tk : Nat} {a : Addr} {l' : Loc} (ha : a ∈ own env) (hs : Heap.SameBut a s.heap h')
    (ho : ∀ o, s.heap.get? a = some o → ∀ es n, o.data = .dict es n → ∃ o', h'.get? a = some o' ∧ ∃ es n, o'.data = .dict es n)
    (fr' : Imm s.heap h' → FrOk G env l' ι h' h') : Post G A env ι s ι ⟨l', q.H⟩ { s with heap := h', toks := tk } := by
  have ext := hs.extBut
  have ne : ∀ b o, s.heap.get? b = some o → b ∉ own env ++ ι → h'.get? b = some o := fun b o e hb => ext b o (fun q => hb (List.mem_append_left _ (q ▸ ha))) e
  have im := R.imm' (h' := h') fun b o e hW => ⟨o.slots, ne b o e hW⟩
  have kp : Kp (own env ++ ι) (frs A) s.heap h' := ⟨fun b o e => by
      by_cases hb : b = a
      · subst hb; obtain ⟨o', e', _⟩ := (fr' im).mut (fun _ _ e => e) ha; exact ⟨o', e'⟩
      · exact ⟨o, ext b o hb e⟩, fun b o e hW => ⟨o.slots, ne b o e hW⟩, fun b o e hW _ => ne b o e hW⟩
  have pr : ι <+: ι := List.prefix_refl _
  have hai : a ∉ ι := R.fr.dis a ha
  refine ⟨pr, ⟨⟨?_, R.st.len, R.st.nodup, R.st.fresh, ?_⟩, fr' im, ?_, R.gens, R.os⟩, kp, fun _ h => .inl h⟩
  · intro b o e
    exact ext b o (fun q => by rw [q, R.fr.fresh a ha] at e; cases e) (R.st.keep b o e)
  · intro j x y e1 e2
    exact (R.st.obj j x y e1 e2).at pr im fun o e => ext x o (fun q => hai (q ▸ List.mem_of_getElem? e1)) e
  · intro env' he
    obtain ⟨b1, L, o', b2, b3, ⟨es, n, b4⟩, b5, b6⟩ := R.fs env' he
    by_cases hL : L = a
    · subst hL
      obtain ⟨o2, c1, es', n', c2⟩ := ho o' b3 es n b4
      exact ⟨b1, L, o2, b2, c1, ⟨es', n', c2⟩, b5, b6⟩
    · exact ⟨b1, L, o', b2, ext L o' hL b3, ⟨es, n, b4⟩, b5, b6⟩

theorem upd_some {l : Loc} {x y : String} {v w : V} (e : upd l x v y = some w) : (y = x ∧ w = v) ∨ (y ≠ x ∧ l y = some w) := by
  unfold upd at e
  split at e
  · rename_i h; exact .inl ⟨h, (Option.some.inj e).symm⟩
  · rename_i h; exact .inr ⟨h, e⟩

/-- storing a name -/
noncomputable def Binds (env : Env) (x : String) : Prop := env.kindOf (Str.ofString x) = some .local ∨ (env.kindOf (Str.ofString x) = some .cell ∧ (env.cells.lookup (Str.ofString x)).isSome = true)

theorem P_store {x : String} {v : V} {cv : Value} (hx : Binds env x) (R : Rel G A env ι q s) (hv : VRel G ι s.heap v cv) :
    Sat G A env ι s (.ok () ⟨upd q.l x v, q.H⟩) (fun _ _ _ _ => True) (wpT G A (storeName env (Str.ofString x) cv)) := by
  intro Q E hQ
  have hp : (env.scope.kind == .class || (env.scope.kind == .module && env.locals != env.globals)) = false := by rw [R.fr.kind]; rfl
  rcases hx with hx | ⟨hx, hc⟩
  · obtain ⟨m, hn, hm⟩ := R.fr.loc
    refine wpAny_storeName_local hx hn (fun h' hn' hs => ?_) hp
    refine hQ ι () _ (Post.ownChange R (.head _) hs (fun o _ es n _ => ?_) fun im => ?_) trivial
    · obtain ⟨o', es', ep', h1, h2, _⟩ := hn'; exact ⟨o', h1, es', ep', h2⟩
    · have pr : ι <+: ι := List.prefix_refl _
      refine ⟨R.fr.kind, R.fr.glob, R.fr.blt, ⟨_, hn', fun y w e1 e2 => ?_⟩, fun y w e1 e2 => ?_, fun p hp => ?_, R.fr.ndup, R.fr.dis, R.fr.fresh⟩
      · rcases upd_some e1 with ⟨rfl, rfl⟩ | ⟨hne, e1⟩
        · exact ⟨cv, by simp, hv.mono pr im⟩
        · obtain ⟨cw, a, b⟩ := hm y w e1 e2
          exact ⟨cw, by rw [if_neg (fun q => hne (ofString_inj q))]; exact a, b.mono pr im⟩
      · rcases upd_some e1 with ⟨rfl, rfl⟩ | ⟨hne, e1⟩
        · rw [hx] at e2; rcases e2 with e2 | e2 <;> cases e2
        · obtain ⟨c, o, cw, a, b, d, f⟩ := R.fr.cel y w e1 e2
          refine ⟨c, o, cw, a, hs.extBut c o (fun q => ?_) b, d, f.mono pr im⟩
          obtain ⟨oL, es, ep, hL, hd, _⟩ := hn
          rw [q, hL] at b; cases b; rw [hd] at d; cases d
      · obtain ⟨o, ov, a, b⟩ := R.fr.cells p hp
        refine ⟨o, ov, hs.extBut p.2 o (fun q => ?_) a, b⟩
        obtain ⟨oL, es, ep, hL, hd, _⟩ := hn
        rw [q, hL] at a; cases a; rw [hd] at b; cases b
  · obtain ⟨c, hc⟩ := Option.isSome_iff_exists.mp hc
    have hmem := mem_of_lookup hc
    have hown : c ∈ own env := List.mem_cons_of_mem _ (List.mem_map.mpr ⟨_, hmem, rfl⟩)
    obtain ⟨o, ov, h1, h2⟩ := R.fr.cells _ hmem
    refine wpAny_storeName_cell R.fr.kind hx hc ⟨o, h1, h2⟩ (fun h' hc' hs => ?_)
    obtain ⟨o', h3, h4⟩ := hc'
    refine hQ ι () _ (Post.ownChange (tk := s.toks) R hown hs (fun o2 e es n d => ?_) fun im => ?_) trivial
    · dsimp only at h1; rw [h1] at e; cases e; rw [h2] at d; cases d
    · have pr : ι <+: ι := List.prefix_refl _
      refine ⟨R.fr.kind, R.fr.glob, R.fr.blt, ?_, fun y w e1 e2 => ?_, fun p hp => ?_, R.fr.ndup, R.fr.dis, R.fr.fresh⟩
      · obtain ⟨m, hn, hm⟩ := R.fr.loc
        refine ⟨m, hn.sameBut hs (fun q => ?_), fun y w e1 e2 => ?_⟩
        · obtain ⟨oL, es, ep, hL, hd, _⟩ := hn
          dsimp only at h1
          rw [q, h1] at hL; cases hL; rw [h2] at hd; cases hd
        · rcases upd_some e1 with ⟨rfl, rfl⟩ | ⟨hne, e1⟩
          · rw [hx] at e2; cases e2
          · obtain ⟨cw, a, b⟩ := hm y w e1 e2; exact ⟨cw, a, b.mono pr im⟩
      · rcases upd_some e1 with ⟨rfl, rfl⟩ | ⟨hne, e1⟩
        · exact ⟨c, o', cv, hc, h3, h4, hv.mono pr im⟩
        · obtain ⟨c2, o2, cw, a, b, d, f⟩ := R.fr.cel y w e1 e2
          refine ⟨c2, o2, cw, a, hs.extBut c2 o2 (fun q => ?_) b, d, f.mono pr im⟩
          subst q
          have hm2 := mem_of_lookup a
          exact hne (ofString_inj (congrArg (·.1) (nodup_snd R.fr.ndup hm2 hmem)))
      · by_cases hpc : p.2 = c
        · exact ⟨o', some cv, by rw [hpc]; exact h3, h4⟩
        · obtain ⟨o2, ov2, a, b⟩ := R.fr.cells p hp
          exact ⟨o2, ov2, hs.extBut p.2 o2 hpc a, b⟩
where
  nodup_snd : ∀ {l : List (Str × Addr)} {x y : Str} {c : Addr}, (l.map (·.2)).Nodup → (x, c) ∈ l → (y, c) ∈ l → ((x, c) : Str × Addr) = (y, c)
    | [], _, _, _, _, h, _ => nomatch h
    | p :: r, x, y, c, hn, h1, h2 => by
      rw [List.map_cons, List.nodup_cons] at hn
      rcases List.mem_cons.mp h1 with e1 | h1 <;> rcases List.mem_cons.mp h2 with e2 | h2
      · rw [e1, e2]
      · exact absurd (List.mem_map.mpr ⟨_, h2, by rw [← e1]⟩) hn.1
      · exact absurd (List.mem_map.mpr ⟨_, h1, by rw [← e2]⟩) hn.1
      · exact nodup_snd hn.2 h1 h2

theorem fNext : FlRel G ι h .next .next := rfl
/-! ### statements -/
noncomputable def setV (x : String) (v : V) : Cm Unit := fun q => .ok () ⟨upd q.l x v, q.H⟩

theorem X_assign {x : String} {p pos : Pos} {e : Expr} {m : Cm V} (hx : Binds env x) (h1 : Ev G hq k env e m) (hs : swapsWith e (some (.Name (Str.ofString x) p)) pos.line env = pure false) :
    Ex G hq k env (.Assign [.Name (Str.ofString x) p] e pos) (m.bnd fun v => (setV x v).bnd fun _ => .pur .next) :=
  fun A ι q s ha R => (Sat.bnd (T' := fun v Q E s₁ => wpAny G.M A (storeName env (Str.ofString x) v) (fun _ => Q .next) E s₁) (h1 A ι q s ha R) fun a q' ι' b s' _ P hv =>
    Sat.bnd (m := setV x a) (T' := fun _ Q E s₁ => Q Flow.next s₁) (P_store hx P.rel hv) fun a2 q2 ι2 b2 s2 _ P2 _ => Sat.ret0 (REL := FlRel G) P2.rel fNext fun Q E hQ => hQ).imp fun Q E x => wpAny_Assign_Name x hs

theorem X_ret {e : Expr} {pos : Pos} {m : Cm V} (h1 : Ev G hq k env e m) : Ex G hq k env (.Return (some e) pos) (m.bnd fun v => .pur (.ret v)) :=
  fun A ι q s ha R => (Sat.bnd (T' := fun v Q E s₁ => Q (.ret v) s₁) (h1 A ι q s ha R) fun a q' ι' b s' _ P hv => Sat.ret0 P.rel ⟨b, rfl, hv⟩ fun Q E hQ => hQ).imp fun Q E x => wpAny_Return_some x
theorem X_if {test : Expr} {body orelse : List Stmt} {pos : Pos} {m : Cm Bool} {m1 m2 : Cm Fl} (h0 : Tr G hq k env test m) (h1 : Exs G hq k env body m1) (h2 : Exs G hq k env orelse m2) :
    Ex G hq k env (.If test body orelse pos) (m.bnd fun b => if b then m1 else m2) :=
  fun A ι q s ha R => (Sat.bnd (T' := fun b Q E s₂ => if b then wpAny G.M A (execs body env) Q E s₂ else wpAny G.M A (execs orelse env) Q E s₂) (h0 A ι q s ha R) fun a q' ι' b s' _ P hv => by
    subst hv
    cases a with
    | true => exact (h1 A ι' q' s' ha P.rel).imp fun Q E x => x
    | false => exact (h2 A ι' q' s' ha P.rel).imp fun Q E x => x).imp fun Q E x => wpAny_If x
noncomputable def seqV (m : Cm Fl) (m' : Cm Fl) : Cm Fl := m.bnd fun f => match f with | .next => m' | .ret v => .pur (.ret v)
theorem Xs_nil : Exs G hq k env [] (.pur .next) := fun A ι q s ha R => Sat.ret0 R fNext fun Q E hQ => wpAny_execs_nil hQ
theorem Xs_cons {st : Stmt} {rest : List Stmt} {m m' : Cm Fl} (h1 : Ex G hq k env st m) (h2 : Exs G hq k env rest m') : Exs G hq k env (st :: rest) (seqV m m') :=
  fun A ι q s ha R => (Sat.bnd (T' := fun f Q E s' => match f with | .next => wpAny G.M A (execs rest env) Q E s' | f => Q f s') (h1 A ι q s ha R) fun a q' ι' b s' _ P hv => by
    cases a with
    | next => rw [show b = .next from hv]; exact (h2 A ι' q' s' ha P.rel).imp fun Q E x => x
    | ret v => obtain ⟨cv, rfl, hv⟩ := hv; exact Sat.ret0 P.rel ⟨cv, rfl, hv⟩ fun Q E hQ => hQ).imp fun Q E x => wpAny_execs_cons x
/-- a last statement alone -/
theorem Xs_one {st : Stmt} {m : Cm Fl} (h1 : Ex G hq k env st m) : Exs G hq k env [st] m :=
  fun A ι q s ha R => (h1 A ι q s ha R).imp fun Q E x => wpAny_execs_cons (wpAny_mono x (fun f s' y => by cases f <;> first | exact wpAny_execs_nil y | exact y) fun _ _ y => y)

/-- a call as a statement -/
theorem X_expr {e : Expr} {pos : Pos} {m : Cm V} (h1 : Ev G hq k env e m) (hi : interactive env = false) (hs : swapsWith e none pos.line env = pure false) :
    Ex G hq k env (.Expr e pos) (m.bnd fun _ => .pur .next) :=
  fun A ι q s ha R => (Sat.bnd (T' := fun v Q E s₁ => Q .next s₁) (h1 A ι q s ha R) fun a q' ι' b s' _ P hv => Sat.ret0 P.rel fNext fun Q E hQ => hQ).imp fun Q E x => by
    show wpAny _ _ _ _ _ _
    rw [exec_Expr env e pos hi hs]
    refine wpAny_bind (wpAny_standAt (wpAny_bind (wpAny_mono x (fun v s' h' => ?_) fun _ _ x => x)))
    unfold dropValue
    split
    · exact wpAny_pure h'
    · exact wpAny_bind (wpAny_standAt (wpAny_bind (wpAny_runValue (codeAny_builtin entry_let_go (show wpAny _ _ (PySem.ret .none) _ _ s' from wpAny_pure (wpAny_pure h'))))))
    · exact wpAny_pure h'
end
end Mine

set_option Elab.async false
set_option linter.unusedVariables false
namespace Mine
open PySem PySem.W PyProof.Rows

section
variable {G : Cx} {hq : Bool} {k : Nat} {env : Env} {A : Around} {ι : List Addr} {q : S} {s : Shared} {H : Hp} {h : Heap}

/-! ### attributes -/
noncomputable def fset (f : String) (v : V) : List (String × V) → List (String × V)
  | [] => [(f, v)]
  | (g, w) :: r => if g = f then (g, v) :: r else (g, w) :: fset f v r

theorem isStr_of_string {f g : String} {t : Tok} : (Value.str (Str.ofString g) t).isStr (Str.ofString f) = decide (g = f) := by
  show (Str.ofString g == Str.ofString f) = _
  by_cases e : g = f
  · subst e; simp
  · have : ¬ Str.ofString g = Str.ofString f := fun x => e (ofString_inj x)
    simp [e, this]

theorem frel_get : ∀ {fs : List (String × V)} {es : List DictEntry}, FRel G ι h fs es → ∀ (f : String),
    (match fs.lookup f with | some v => ∃ cv, getL (Str.ofString f) es = some (some cv) ∧ VRel G ι h v cv | none => getL (Str.ofString f) es = some none)
  | [], _, x, f => by rw [show _ = [] from x]; rfl
  | (g, w) :: fs, _, ⟨t, cv, es', q, a, b⟩, f => by
    subst q
    have ih := frel_get b f
    rw [List.lookup_cons]
    dsimp only at a ⊢
    by_cases e : f = g
    · subst e
      simp only [beq_self_eq_true]
      refine ⟨cv, ?_, a⟩
      unfold getL
      rw [List.find?_cons_of_pos (by show Value.isStr _ _ = true; rw [isStr_of_string]; simp)]
    · have e' : (f == g) = false := by simpa using e
      rw [e']
      have hne : ¬ (g = f) := fun x => e x.symm
      have : getL (Str.ofString f) (⟨PyData.keyHash G.w.params (Str.ofString g), .str (Str.ofString g) t, cv⟩ :: es') = getL (Str.ofString f) es' := by
        unfold getL
        rw [List.find?_cons_of_neg (by show ¬ (Value.isStr _ _ = true); rw [isStr_of_string]; simpa using hne)]
        have : (DictEntry.refKey ⟨PyData.keyHash G.w.params (Str.ofString g), .str (Str.ofString g) t, cv⟩) = false := rfl
        simp only [List.any_cons, this, Bool.false_or]
      rw [this]
      exact ih

theorem frel_set {f : String} {v : V} {cv : Value} {tk : Tok} (hv : VRel G ι h v cv) : ∀ {fs : List (String × V)} {es : List DictEntry}, FRel G ι h fs es →
    FRel G ι h (fset f v fs) (putL (Str.ofString f) (PyData.keyHash G.w.params (Str.ofString f)) (.str (Str.ofString f) tk) cv es)
  | [], _, x => by rw [show _ = [] from x]; exact ⟨tk, cv, [], rfl, hv, rfl⟩
  | (g, w) :: fs, _, ⟨t, cw, es', q, a, b⟩ => by
    subst q
    unfold fset putL
    dsimp only
    rw [isStr_of_string]
    by_cases e : g = f
    · subst e; simp only [decide_true, if_true]; exact ⟨t, cv, es', rfl, hv, b⟩
    · simp only [e, decide_false, Bool.false_eq_true, if_false]; exact ⟨t, cw, _, rfl, a, frel_set hv b⟩
theorem frel_len : ∀ {fs : List (String × V)} {es : List DictEntry}, FRel G ι h fs es → es.length = fs.length
  | [], _, x => by rw [show _ = [] from x]; rfl
  | _ :: _, _, ⟨_, _, _, q, _, b⟩ => by subst q; simp [frel_len b]

noncomputable def attrOk (K : Frag) (C : Addr) (name : Str) : Bool := plainGet K C name && hasDictIn K C && (match findIn K (.ref C) name with | some attr => noGet K attr | none => false)
noncomputable def setOk (K : Frag) (C : Addr) (name : Str) : Bool :=
  (findIn K (.ref C) "__setattr__" == some (some (.builtin "object.__setattr__"))) && plainOver K C && (takerIn K C name == some none) && hasDictIn K C
noncomputable def HasF (G : Cx) (f : String) : Prop := ∀ c C, G.cls c = some C → attrOk G.K C (Str.ofString f) = true
noncomputable def HasS (G : Cx) (f : String) : Prop := ∀ c C, G.cls c = some C → setOk G.K C (Str.ofString f) = true

theorem vrel_handed {v : V} {cv : Value} (r : VRel G ι h v cv) : handedIn cv = true := by
  cases v with
  | none => rw [show cv = .none from r]; rfl
  | bool b => rw [show cv = .bool b from r]; rfl
  | int i => obtain ⟨t, rfl⟩ := r; rfl
  | str y => obtain ⟨t, rfl⟩ := r; rfl
  | tup xs => obtain ⟨a, vs, rfl, _⟩ := r; rfl
  | ref i => obtain ⟨a, _, rfl⟩ := r; rfl
  | inst c i => obtain ⟨a, x, C, o, _, _, rfl, _⟩ := r; rfl
  | exc c => obtain ⟨x, C, o, _, rfl, _⟩ := r; rfl
  | scr => rw [show cv = .ref G.sa from r]; rfl

/-- an own object met: its place and its names -/
theorem inst_at (R : StOk G ι H h) {c : String} {i : Nat} {cv : Value} {fs : List (String × V)} (r : VRel G ι h (.inst c i) cv) (e : H[i]? = some (.flds fs)) :
    ∃ a x C ox es n, ι[i]? = some a ∧ G.cls c = some C ∧ cv = .ref x ∧ InstAt h x ox C (some (dictOf es n)) ∧ ox.dict = some a ∧ h.get? a = some (dictOf es n) ∧ FRel G ι h fs es := by
  obtain ⟨a, x, C, o, h1, h2, h3, h4, h5, h6, h7⟩ := r
  obtain ⟨a', es, n, g1, g2, g3⟩ := R.flds e
  obtain rfl : a = a' := Option.some.inj (h1.symm.trans g1)
  exact ⟨a, x, C, o, es, n, h1, h2, h3, ⟨h4, h5, by unfold notCls; rw [h7], by rw [h6]; exact g2⟩, h6, g2, g3⟩

noncomputable def attrV (f : String) : V → Cm V
  | .inst _ i => fun q => match q.H[i]? with
    | some (.flds fs) => (match fs.lookup f with | some v => .ok v q | none => .stuck)
    | _ => .stuck
  | _ => .stk

theorem P_attr (C : CxOk G) {f : String} (hf : HasF G f) {v : V} {cv : Value} {ex : Bool} (R : Rel G A env ι q s) (h1 : VRel G ι s.heap v cv) : Sat G A env ι s (attrV f v q) (VRel G) (wpT G A (getAttr cv (Str.ofString f) ex)) := by
  unfold attrV
  split
  · rename_i c i
    split
    · rename_i fs e
      obtain ⟨a, x, C', ox, es, n, g1, g2, rfl, I, g3, g4, g5⟩ := inst_at R.st h1 e
      have hg := frel_get g5 f
      split
      · rename_i v hv
        rw [hv] at hg
        obtain ⟨cw, hl, hr⟩ := hg
        have hok := hf c C' g2
        unfold attrOk at hok
        simp only [Bool.and_eq_true] at hok
        obtain ⟨⟨k1, k2⟩, k3⟩ := hok
        split at k3
        · rename_i attr ha
          exact Sat.ret R hr fun Q E hQ => get_value (C.X.keeps R.st.keep) I (plainGet_of k1).1 (findObj_own k2 ha k3 hl) (vrel_handed hr) hQ
        · cases k3
      · trivial
    · trivial
  · trivial

theorem E_attr (C : CxOk G) {f : String} (hf : HasF G f) {e : Expr} {pos : Pos} {m : Cm V} (h1 : Ev G hq k env e m)
    (he : eval (.Attribute e (Str.ofString f) pos) env = (do let o ← eval e env; standAt pos.atName; let r ← holding [o] (getAttr o (Str.ofString f) true); letTemporaryGo e o r; pure r)) :
    Ev G hq k env (.Attribute e (Str.ofString f) pos) (m.bnd fun v => attrV f v) :=
  fun A ι q s ha R => (Sat.bnd (T' := fun v Q E s₁ => wpAny G.M A (getAttr v (Str.ofString f) true) Q E s₁) (h1 A ι q s ha R) fun a q' ι' b s' _ P hv => P_attr C hf P.rel hv).imp fun Q E x => Attribute_any_ x he

/-- a name set in the own names of an object, the heap told -/
theorem osa_raw {prog : Program} {w : World} {K : Frag} {C x dx : Addr} {ox : Obj} {R : Result → Shared → Prop} {name : Str} {tk : Tok} {v : Value} {es : List DictEntry} {n : Nat} {s : Shared} {A : Around} (X : K.In s.heap)
    (I : InstAt s.heap x ox C (some (dictOf es n))) (hd : ox.dict = some dx) (D : s.heap.get? dx = some (dictOf es n)) (hp : plainOver K C = true) (ht : takerIn K C name = some none) (hh : hasDictIn K C = true)
    (hl : (getL name es).isSome = true) (hz : (putL name (PyData.keyHash w.params name) (.str name s.toks) v es).length ≤ 1000)
    (h : ∀ h', h'.get? dx = some (dictOf (putL name (PyData.keyHash w.params name) (.str name s.toks) v es) (putN name es n)) → Heap.SameBut dx s.heap h' → R (.ok (.ret .none)) { s with heap := h', toks := s.toks + 1 }) :
    codeAny (model prog w) A (.call (.builtin "object.__setattr__") ⟨[.ref x, .str name tk, v], []⟩) R s := by
  refine osa_open X I hp ht fun b => ?_
  obtain ⟨cd, hc, hd'⟩ := any_some hh
  obtain ⟨hx, hcl, hn, -⟩ := I
  obtain ⟨oc, odi, oda, osl⟩ := ox
  dsimp only at hcl hd
  subst hcl hd
  refine wpAny_bind (wpAny_pure (wpAny_bind (wpAny_bind (wpAny_loadPart hx (wpAny_bind ((looks_clsIn X hc).here ?_))))))
  rw [hd']
  refine wpAny_pure (a := some dx) (wpAny_bind (wpAny_pure (wpAny_bind ?_)))
  unfold nsSet
  refine wpAny_bind (wpAny_bind (wpAny_askSetting (wpAny_pure (wpAny_bind (wpAny_mkText (wpAny_bind (wpAny_loadPart D ?_)))))))
  dsimp only
  have c : (!(es.toArray).any (·.key.isStr name) && (es.toArray).any (·.refKey)) = false := by
    unfold getL at hl
    split at hl
    · rename_i en he
      have : (es.toArray).any (·.key.isStr name) = true := by simpa using ⟨en, List.mem_of_find?_eq_some he, by simpa using List.find?_some he⟩
      rw [this]; rfl
    · split at hl
      · cases hl
      · rename_i z
        have : (es.toArray).any (·.refKey) = false := by simpa using z
        rw [this, Bool.and_false]
  have U := Heap.get?_update_self (h := s.heap) (Obj.putName name (PyData.keyHash w.params name) (.str name s.toks) v) D (by rw [putName_dict]; rfl)
  rw [putName_dict] at U
  rw [aRefKeyMayBeTheName_at, c]
  refine wpAny_updatePart D ?_
  refine wpAny_bind (wpAny_lookBehind U (pastItsLine_dict (by rw [List.size_toArray, sizeLine_eq]; omega)) ?_)
  exact wpAny_pure (h _ U (Heap.SameBut.update ..))

noncomputable def setAttrV (f : String) (v : V) : V → Cm Unit
  | .inst _ i => fun q => match q.H[i]? with
    | some (.flds fs) => if fs.length < 100 then .ok () { q with H := q.H.set i (.flds (fset f v fs)) } else .stuck
    | _ => .stuck
  | _ => .stk
theorem fset_len (f : String) (v : V) : ∀ fs : List (String × V), (fset f v fs).length ≤ fs.length + 1
  | [] => by simp [fset]
  | (g, w) :: r => by
    unfold fset
    split
    · simp
    · simpa using fset_len f v r

theorem P_setAttr (C : CxOk G) {f : String} (hf : HasS G f) {o v : V} {co cv : Value} (R : Rel G A env ι q s) (h1 : VRel G ι s.heap o co) (h2 : VRel G ι s.heap v cv) :
    Sat G A env ι s (setAttrV f v o q) (fun _ _ _ _ => True) (wpT G A (setAttr co (Str.ofString f) cv)) := by
  unfold setAttrV
  split
  · rename_i c i
    split
    · rename_i fs e
      split
      · rename_i hlen
        obtain ⟨a, x, C', ox, es, n, g1, g2, rfl, I, g3, g4, g5⟩ := inst_at R.st h1 e
        have hok := hf c C' g2
        unfold setOk at hok
        simp only [Bool.and_eq_true, beq_iff_eq] at hok
        obtain ⟨⟨⟨k1, k2⟩, k3⟩, k4⟩ := hok
        have hg := frel_get g5 f
        have hl : (getL (Str.ofString f) es).isSome = true := by
          split at hg
          · obtain ⟨cw, hg, _⟩ := hg; rw [hg]; rfl
          · rw [hg]; rfl
        intro Q E hQ
        have fr := frel_set (tk := s.toks + 1) (f := f) h2 g5
        refine set_plain (C.X.keeps R.st.keep) I k1 (osa_raw (s := { s with toks := s.toks + 1 }) (C.X.keeps R.st.keep) I g3 g4 k2 k3 k4 hl ?_ fun h' e1 e2 => ?_)
        · show (putL _ _ (Value.str _ (s.toks + 1)) _ _).length ≤ 1000
          rw [frel_len fr]
          have := fset_len f v fs
          omega
        · exact hQ ι () _ (Post.set R g1 e2 fun im => ⟨_, _, e1, fr.mono (List.prefix_refl _) im⟩) trivial
      · trivial
    · trivial
  · trivial

theorem X_setattr (C : CxOk G) {f : String} (hf : HasS G f) {o e : Expr} {p pos : Pos} {m1 m2 : Cm V} (h1 : Ev G hq k env e m1) (h2 : Ev G hq k env o m2)
    (hs : swapsWith e (some (.Attribute o (Str.ofString f) p)) pos.line env = pure false) :
    Ex G hq k env (.Assign [.Attribute o (Str.ofString f) p] e pos) (m1.bnd fun v => m2.bnd fun o => (setAttrV f v o).bnd fun _ => .pur .next) :=
  fun A ι q s ha R => (Sat.bnd (T' := fun v Q E s₁ => wpAny G.M A (eval o env) (fun ov s₂ => wpAny G.M A (setAttr ov (Str.ofString f) v) (fun _ => Q .next) E s₂) E s₁) (h1 A ι q s ha R) fun a q' ι' b s' _ P hv =>
    Sat.bnd (T' := fun ov Q E s₁ => wpAny G.M A (setAttr ov (Str.ofString f) b) (fun _ => Q Flow.next) E s₁) (h2 A ι' q' s' ha P.rel) fun a2 q2 ι2 b2 s2 _ P2 hv2 =>
    Sat.bnd (T' := fun _ Q E s₁ => Q Flow.next s₁) (P_setAttr C hf P2.rel hv2 (P2.vrel P.rel hv)) fun a3 q3 ι3 b3 s3 _ P3 _ => Sat.ret0 P3.rel fNext fun Q E hQ => hQ).imp fun Q E x => plainObj_wpAny_Assign_Attribute x hs
end
end Mine

set_option Elab.async false
set_option linter.unusedVariables false
namespace Mine
open PySem PySem.W PyProof.Rows

section
variable {G : Cx} {hq : Bool} {k : Nat} {env : Env} {A : Around} {ι : List Addr} {q : S} {s : Shared} {H : Hp} {h : Heap}

/-! ### the script -/
theorem ints_get : ∀ {vs : List Value} {ns : List Int}, IntsAre vs ns → ∀ {i : Nat} {n : Int}, ns[i]? = some n → ∃ t, vs[i]? = some (.int n t)
  | [], [], _, i, n, e => by simp at e
  | [], _ :: _, x, _, _, _ => by cases x
  | _ :: _, [], x, _, _, _ => by cases x
  | v :: vs, n0 :: ns, x, i, n, e => by
    have hx : (∃ t, v = .int n0 t) ∧ IntsAre vs ns := by
      cases x with
      | cons a b => exact ⟨⟨_, rfl⟩, by assumption⟩
    obtain ⟨⟨t, rfl⟩, hx⟩ := hx
    cases i with
    | zero => simp at e; subst e; exact ⟨t, rfl⟩
    | succ i => simpa using ints_get hx (by simpa using e)
theorem ints_vrels : ∀ {vs : List Value} {ns : List Int}, IntsAre vs ns → VRels G ι h (ns.map .int) vs
  | [], [], _ => vNil
  | [], _ :: _, x => by cases x
  | _ :: _, [], x => by cases x
  | v :: vs, n0 :: ns, x => by
    have hx : (∃ t, v = .int n0 t) ∧ IntsAre vs ns := by
      cases x with
      | cons a b => exact ⟨⟨_, rfl⟩, by assumption⟩
    obtain ⟨⟨t, rfl⟩, hx⟩ := hx
    exact vCons (vInt _ _) (ints_vrels hx)

/-! ### items -/
noncomputable def itemV (sn : List Int) (o i : V) : Cm V := fun q => match o, i with
  | .ref r, .int k => (match q.H[r]? with
    | some (.list xs) => if 0 ≤ k ∧ k < 1000000 then (match xs[k.toNat]? with | some v => .ok v q | none => .stuck) else .stuck
    | some (.dict es) => (match es.lookup k with | some v => .ok v q | none => .stuck)
    | _ => .stuck)
  | .tup xs, .int k => if 0 ≤ k ∧ k < 1000000 then (match xs[k.toNat]? with | some v => .ok v q | none => .stuck) else .stuck
  | .scr, .int k => if 0 ≤ k ∧ k < 1000000 then (match sn[k.toNat]? with | some n => .ok (.int n) q | none => .stuck) else .stuck
  | _, _ => .stuck

theorem P_item (C : CxOk G) {value slice : Expr} (hs : ∀ o i, subscripted slice false o i = operate [o, i] (getItem o i)) {o i : V} {co ci : Value} (R : Rel G A env ι q s) (h1 : VRel G ι s.heap o co) (h2 : VRel G ι s.heap i ci) :
    Sat G A env ι s (itemV G.sn o i q) (VRel G) (wpT G A (subscriptTail value slice co ci)) := by
  unfold itemV
  split
  · rename_i r k
    obtain ⟨a, ha, rfl⟩ := h1
    obtain ⟨t, rfl⟩ := h2
    split
    · rename_i xs e
      split
      · rename_i hk
        split
        · rename_i v hv
          obtain ⟨a1, n1, vs, g1, g2, g3⟩ := R.st.list e
          obtain rfl : a = a1 := Option.some.inj (ha.symm.trans g1)
          obtain ⟨cv, hcv, hr⟩ := g3.get hv
          have hl := g2.isList
          exact Sat.ret0 R hr fun Q E hQ => tail_any hl.typeIs slot_list_getitem.lookup (wpAny_getItem_list hl hk.1 (by omega) (by simpa using hcv) hQ) (hs _ _)
        · trivial
      · trivial
    · rename_i es e
      split
      · rename_i v hv
        obtain ⟨a1, kvs, g1, g2, g3⟩ := R.st.dict e
        obtain rfl : a = a1 := Option.some.inj (ha.symm.trans g1)
        have hg := drel_valueAt g3 k
        rw [hv] at hg
        obtain ⟨cv, hcv, hr⟩ := hg
        exact Sat.ret R hr fun Q E hQ => tail_any g2.mapOf.typeIs slot_dict_getitem.lookup (wpAny_getItem_of (intKind_is G.prog G.w k t) g2.mapOf hcv hQ) (hs _ _)
      · trivial
    · trivial
  · rename_i xs k
    obtain ⟨a, vs, rfl, ht, hv⟩ := h1
    obtain ⟨t, rfl⟩ := h2
    split
    · rename_i hk
      split
      · rename_i v hx
        obtain ⟨cv, hcv, hr⟩ := hv.get hx
        have hlen := (List.getElem?_eq_some_iff.mp hcv).1
        have hj : seqIndex? k vs.toArray.size = some k.toNat := by
          unfold seqIndex?
          rw [List.size_toArray]
          have : ¬ (k < 0) := by omega
          simp only [this, if_false]
          have h2 : 0 ≤ k ∧ k < (vs.length : Int) := by omega
          simp only [h2, and_self, if_true, decide_true, Bool.and_true, Bool.and_self]
        exact Sat.ret0 R hr fun Q E hQ => tail_any ht.typeIs slot_tuple_getitem.lookup (getItem_tuple ht (by omega) (by omega) hj (by simpa using hcv) hQ) (hs _ _)
      · trivial
    · trivial
  · rename_i k
    rw [show co = .ref G.sa from h1]
    obtain ⟨t, rfl⟩ := h2
    split
    · rename_i hk
      split
      · rename_i n hn
        obtain ⟨t', ht'⟩ := ints_get C.isInts hn
        have hl : s.heap.IsList G.sa G.sv.toArray := C.scr.at fun o e => R.st.keep _ _ e
        exact Sat.ret0 R (vInt n t') fun Q E hQ => tail_any hl.typeIs slot_list_getitem.lookup (wpAny_getItem_list hl hk.1 (by omega) (by simpa using ht') hQ) (hs _ _)
      · trivial
    · trivial
  · trivial

theorem E_sub (C : CxOk G) {e i : Expr} {pos : Pos} {m1 m2 : Cm V} (h1 : Ev G hq k env e m1) (h2 : Ev G hq k env i m2) (hs : ∀ o v, subscripted i false o v = operate [o, v] (getItem o v)) :
    Ev G hq k env (.Subscript e i pos) (m1.bnd fun o => m2.bnd fun v => itemV G.sn o v) :=
  fun A ι q s ha R => (Sat.bnd (h1 A ι q s ha R) fun a q' ι' b s' _ P hv => Sat.bnd (T' := fun v Q E s₁ => wpAny G.M A (subscriptTail e i b v) Q E s₁) (h2 A ι' q' s' ha P.rel) fun a2 q2 ι2 b2 s2 _ P2 hv2 =>
    P_item C hs P2.rel (P2.vrel P.rel hv) hv2).imp fun Q E x => Subscript_ x

/-! ### lists of expressions; displays -/
abbrev EvL (G : Cx) (hq : Bool) (k : Nat) (env : Env) (es : List Expr) (m : Cm (List V)) : Prop := ∀ pos, Sem.Is G hq k env (fun A => wpT G A (spliced (backTo pos (starEach es env)))) m (VRels G)
theorem EL_nil : EvL G hq k env [] (.pur []) := fun pos A ι q s ha R => Sat.ret0 R vNil fun Q E hQ => wpAny_items_nil hQ
theorem EL_cons {e : Expr} {es : List Expr} {m : Cm V} {m' : Cm (List V)} (h1 : Ev G hq k env e m) (h2 : EvL G hq k env es m') (he : starEach (e :: es) env = (false, eval e env) :: starEach es env) :
    EvL G hq k env (e :: es) (m.bnd fun v => m'.bnd fun vs => .pur (v :: vs)) :=
  fun pos A ι q s ha R => (Sat.bnd (T' := fun v Q E s₁ => wpAny G.M A (spliced (backTo pos (starEach es env))) (fun vs s₂ => Q (v :: vs) s₂) E s₁) (h1 A ι q s ha R) fun a q' ι' b s' _ P hv =>
    Sat.bnd (T' := fun vs Q E s₁ => Q (b :: vs) s₁) (h2 pos A ι' q' s' ha P.rel) fun a2 q2 ι2 b2 s2 _ P2 hv2 => Sat.ret0 P2.rel (vCons (P2.vrel P.rel hv) hv2) fun Q E hQ => hQ).imp fun Q E x => wpAny_items_cons x he

noncomputable def newL (vs : List V) : Cm V := fun q => if vs.length ≤ 1000000 then .ok (.ref q.H.length) { q with H := q.H ++ [.list vs] } else .stuck
theorem E_list {es : List Expr} {pos : Pos} {m : Cm (List V)} (h1 : EvL G hq k env es m) : Ev G hq k env (.List es pos) (m.bnd fun vs => newL vs) :=
  fun A ι q s ha R => (Sat.bnd (T' := fun vs Q E s₁ => vs.length ≤ sizeLine ∧ Q (Value.ref s₁.heap.objs.size) { s₁ with heap := s₁.heap.push { cls := .type "list", data := .seq vs.toArray } }) (h1 pos A ι q s ha R) fun a q' ι' b s' _ P hv => by
    unfold newL
    split
    · rename_i hl
      refine Sat.newList (β := Value) (tk := s'.toks) P.rel hv fun Q E hQ => ⟨?_, hQ⟩
      rw [hv.length, sizeLine_eq]; omega
    · trivial).imp fun Q E x => wpAny_List x
theorem vTup_new {xs : List V} {vs : List Value} (R : Rel G A env ι q s) (hx : VRels G ι s.heap xs vs) : VRel G ι (s.heap.push { cls := .type "tuple", data := .seq vs.toArray }) (.tup xs) (.ref s.heap.objs.size) :=
  ⟨_, vs, rfl, ⟨_, Heap.get?_push_size _ rfl, rfl, 0, rfl⟩, hx.mono (List.prefix_refl _) (.of_stays (push_stays _ _))⟩
noncomputable def newT (vs : List V) : Cm V := if vs.length ≤ 1000000 then .pur (.tup vs) else .stk
theorem E_tuple {es : List Expr} {kk : Nat} {pos : Pos} {m : Cm (List V)} (h1 : EvL G hq k env es m) : Ev G hq k env (.Tuple es kk pos) (m.bnd fun vs => newT vs) :=
  fun A ι q s ha R => (Sat.bnd (T' := fun vs Q E s₁ => vs.length ≤ sizeLine ∧ Q (Value.ref s₁.heap.objs.size) { s₁ with heap := s₁.heap.push { cls := .type "tuple", data := .seq vs.toArray } }) (h1 pos A ι q s ha R) fun a q' ι' b s' _ P hv => by
    unfold newT
    split
    · rename_i hl
      refine Sat.grew (tk := s'.toks) P.rel (push_stays _ _) (vTup_new P.rel hv) fun Q E hQ => ⟨?_, hQ⟩
      rw [hv.length, sizeLine_eq]; omega
    · trivial).imp fun Q E x => wpAny_Tuple x

/-! ### slices -/
noncomputable def itemsOf (sn : List Int) (o : V) (H : Hp) : Option (List V) := match o with
  | .ref i => (match H[i]? with | some (.list xs) => some xs | _ => none)
  | .scr => some (sn.map .int)
  | _ => none
noncomputable def takeV (sn : List Int) (o u : V) : Cm V := fun q => match itemsOf sn o q.H, u with
  | some xs, .int b => if 0 ≤ b ∧ xs.length ≤ 1000000 then .ok (.ref q.H.length) { q with H := q.H ++ [.list (xs.take b.toNat)] } else .stuck
  | _, _ => .stuck
noncomputable def dropV (sn : List Int) (o u : V) : Cm V := fun q => match itemsOf sn o q.H, u with
  | some xs, .int b => if 0 ≤ b ∧ xs.length ≤ 1000000 then .ok (.ref q.H.length) { q with H := q.H ++ [.list (xs.drop b.toNat)] } else .stuck
  | _, _ => .stuck

theorem items_at (C : CxOk G) {o : V} {co : Value} {xs : List V} (R : StOk G ι H h) (r : VRel G ι h o co) (e : itemsOf G.sn o H = some xs) : ∃ a vs, co = .ref a ∧ h.IsList a (List.toArray vs) ∧ VRels G ι h xs vs := by
  unfold itemsOf at e
  split at e
  · split at e
    · rename_i hx
      cases e
      obtain ⟨a, ha, rfl⟩ := r
      obtain ⟨a1, n1, vs, g1, g2, g3⟩ := R.list hx
      obtain rfl : a = a1 := Option.some.inj (ha.symm.trans g1)
      exact ⟨a, vs, rfl, g2.isList, g3⟩
    · cases e
  · cases e
    rw [show co = .ref G.sa from r]
    exact ⟨_, _, rfl, C.scr.at fun o e => R.keep _ _ e, ints_vrels C.isInts⟩
  · cases e

theorem slice_any {value : Expr} {lower upper : Option Expr} {p : Pos} {l : Addr} {vs : List Value} {vl vu : Value} {lo hi : Option Int} {A : Around} {E : Value → Shared → Prop} {s : Shared} {Q : Value → Shared → Prop} {prog : Program} {w : World}
    (hl : s.heap.IsList l vs.toArray) (pl : IsPart vl lo) (pu : IsPart vu hi) (hsz : vs.length ≤ sizeLine)
    (h : Q (.ref (s.heap.objs.size + 1)) { s with heap := (s.heap.push { cls := .type "slice", data := .fields #[vl, vu, .none] }).push { cls := .type "list", data := .seq (slicePick vs.toArray lo hi none) } }) :
    wpAny (model prog w) A (subscriptTail value (.Slice lower upper none p) (.ref l) (.ref s.heap.objs.size)) Q E { s with heap := s.heap.push { cls := .type "slice", data := .fields #[vl, vu, .none] } } := by
  have hl' := hl.push { cls := .type "slice", data := .fields #[vl, vu, .none] }
  refine tail_any (ops := [.ref s.heap.objs.size, .ref l]) (Heap.IsList.typeIs (s := { s with heap := s.heap.push { cls := .type "slice", data := .fields #[vl, vu, .none] } }) hl') slot_list_getitem.lookup ?_ rfl
  refine wpAny_getItem_list_slice hl' (Heap.IsSliceOf.new ..) pl pu .none (by simp) ?_ (by simpa using hsz)
  rw [Heap.size_push]
  exact h

theorem E_take (C : CxOk G) {e u : Expr} {p pos : Pos} {m1 m2 : Cm V} (h1 : Ev G hq k env e m1) (h2 : Ev G hq k env u m2) :
    Ev G hq k env (.Subscript e (.Slice none (some u) none p) pos) (m1.bnd fun o => m2.bnd fun v => takeV G.sn o v) := by
  intro A ι q s ha R
  refine (Sat.bnd (h1 A ι q s ha R) fun a q' ι' b s' _ P hv => Sat.bnd (T' := fun v Q E s₁ => wpAny G.M A (subscriptTail e (.Slice none (some u) none p) b (.ref s₁.heap.objs.size)) Q E { s₁ with heap := s₁.heap.push { cls := .type "slice", data := .fields #[.none, v, .none] } })
    (h2 A ι' q' s' ha P.rel) fun a2 q2 ι2 b2 s2 _ P2 hv2 => ?_).imp fun Q E x => Subscript_ (wpAny_mono x (fun o s₁ y => wpAny_Slice (wpAny_pure (wpAny_mono y (fun v s₂ z => wpAny_pure z) fun _ _ z => z))) fun _ _ y => y)
  unfold takeV
  split
  · rename_i xs n e1 hm0
    split
    · rename_i hn
      obtain ⟨t, rfl⟩ := hv2
      obtain ⟨l, vs, rfl, g1, g2⟩ := items_at C P2.rel.st (P2.vrel P.rel hv) e1
      refine Sat.alloc (tk := s2.toks) P2.rel (a := s2.heap.objs.size + 1) (h' := (s2.heap.push { cls := .type "slice", data := .fields #[.none, .int n t, .none] }).push { cls := .type "list", data := .seq (vs.take n.toNat).toArray }) (fun b o e => Heap.get?_push_of_some _ (Heap.get?_push_of_some _ e)) (Heap.get?_none_of_le (Nat.le_succ _)) ⟨vs.take n.toNat, ⟨0, ?_⟩, ?_⟩ (vRef_new P2.rel.st _) fun Q E hQ => ?_
      · have := Heap.get?_push_size (s2.heap.push { cls := .type "slice", data := .fields #[.none, .int n t, .none] }) (o := { cls := .type "list", data := .seq (vs.take n.toNat).toArray }) rfl
        rwa [Heap.size_push] at this
      · exact (g2.take n.toNat).mono (List.prefix_append _ _) (.of_stays fun b o e => Heap.get?_push_of_some _ (Heap.get?_push_of_some _ e))
      · refine slice_any g1 .none (.int n t) (by rw [g2.length, sizeLine_eq]; omega) ?_
        have := slicePick_upto' vs.toArray n.toNat
        rw [Int.toNat_of_nonneg hn.1] at this
        rw [this]
        exact hQ
    · trivial
  · trivial

theorem E_drop (C : CxOk G) {e u : Expr} {p pos : Pos} {m1 m2 : Cm V} (h1 : Ev G hq k env e m1) (h2 : Ev G hq k env u m2) :
    Ev G hq k env (.Subscript e (.Slice (some u) none none p) pos) (m1.bnd fun o => m2.bnd fun v => dropV G.sn o v) := by
  intro A ι q s ha R
  refine (Sat.bnd (h1 A ι q s ha R) fun a q' ι' b s' _ P hv => Sat.bnd (T' := fun v Q E s₁ => wpAny G.M A (subscriptTail e (.Slice (some u) none none p) b (.ref s₁.heap.objs.size)) Q E { s₁ with heap := s₁.heap.push { cls := .type "slice", data := .fields #[v, .none, .none] } })
    (h2 A ι' q' s' ha P.rel) fun a2 q2 ι2 b2 s2 _ P2 hv2 => ?_).imp fun Q E x => Subscript_ (wpAny_mono x (fun o s₁ y => wpAny_Slice (wpAny_mono y (fun v s₂ z => wpAny_pure (wpAny_pure z)) fun _ _ z => z)) fun _ _ y => y)
  unfold dropV
  split
  · rename_i xs n e1 hm0
    split
    · rename_i hn
      obtain ⟨t, rfl⟩ := hv2
      obtain ⟨l, vs, rfl, g1, g2⟩ := items_at C P2.rel.st (P2.vrel P.rel hv) e1
      refine Sat.alloc (tk := s2.toks) P2.rel (a := s2.heap.objs.size + 1) (h' := (s2.heap.push { cls := .type "slice", data := .fields #[.int n t, .none, .none] }).push { cls := .type "list", data := .seq (vs.drop n.toNat).toArray }) (fun b o e => Heap.get?_push_of_some _ (Heap.get?_push_of_some _ e)) (Heap.get?_none_of_le (Nat.le_succ _)) ⟨vs.drop n.toNat, ⟨0, ?_⟩, ?_⟩ (vRef_new P2.rel.st _) fun Q E hQ => ?_
      · have := Heap.get?_push_size (s2.heap.push { cls := .type "slice", data := .fields #[.int n t, .none, .none] }) (o := { cls := .type "list", data := .seq (vs.drop n.toNat).toArray }) rfl
        rwa [Heap.size_push] at this
      · exact (g2.drop n.toNat).mono (List.prefix_append _ _) (.of_stays fun b o e => Heap.get?_push_of_some _ (Heap.get?_push_of_some _ e))
      · refine slice_any g1 (.int n t) .none (by rw [g2.length, sizeLine_eq]; omega) ?_
        have := slicePick_from' vs.toArray n.toNat
        rw [Int.toNat_of_nonneg hn.1] at this
        rw [this]
        exact hQ
    · trivial
  · trivial
end
end Mine

set_option Elab.async false
set_option linter.unusedVariables false
namespace Mine
open PySem PySem.W PyProof.Rows

structure CPost (G : Cx) (A : Around) (ι : List Addr) (s : Shared) (ι' : List Addr) (H' : Hp) (s' : Shared) : Prop where
  pre : ι <+: ι'
  st : StOk G ι' H' s'.heap
  fs : FsOk G (A.frames.getD []) ι' s'.heap
  kp : Kp ι (frs A) s.heap s'.heap
  new : ∀ a ∈ ι', a ∈ ι ∨ s.heap.get? a = none
  gens : s'.gens = #[]
  os : s'.os = G.os

structure CXPost (G : Cx) (A : Around) (ι : List Addr) (s : Shared) (c : String) (ι' : List Addr) (H' : Hp) (s' : Shared) (ev : Value) : Prop where
  pre : ι <+: ι'
  ex : ∃ e C B a0, ev = .ref e ∧ G.xcl c = some C ∧ Heap.FlyingW B (A.frames.getD []) e (.ref C) a0 s'.heap ∧ StOk G ι' H' B ∧ FsOk G (A.frames.getD []) ι' s'.heap ∧
    (∀ a o, s.heap.get? a = some o → a ∉ ι → a ∉ frs A → B.get? a = some o)
  size : Dom s.heap s'.heap
  up : ∀ a o, s.heap.get? a = some o → a ∉ ι → ∃ sl, s'.heap.get? a = some { o with slots := sl }
  new : ∀ a ∈ ι', a ∈ ι ∨ s.heap.get? a = none
  gens : s'.gens = #[]
  os : s'.os = G.os

noncomputable def FnOk (G : Cx) (hq : Bool) (k : Nat) (f : Addr) (F : Fc) : Prop :=
  ∀ A ι H s vs cvs, ROk hq k A → (∃ fs, A.frames = some fs) → StOk G ι H s.heap → FsOk G (A.frames.getD []) ι s.heap → s.gens = #[] → s.os = G.os → VRels G ι s.heap vs cvs →
    match F vs H with
    | .ok v H' => ∀ R : Result → Shared → Prop, (∀ ι' cv s', CPost G A ι s ι' H' s' → VRel G ι' s'.heap v cv → R (.ok (.ret cv)) s') → codeAny G.M A (.call (.ref f) ⟨cvs, []⟩) R s
    | .exc c H' => ∀ R : Result → Shared → Prop, (∀ ι' ev s', CXPost G A ι s c ι' H' s' ev → R (.error ev) s') → codeAny G.M A (.call (.ref f) ⟨cvs, []⟩) R s
    | .stuck => True

section
variable {G : Cx} {hq : Bool} {k : Nat} {env : Env} {A : Around} {ι ι' : List Addr} {q : S} {s s' : Shared} {H H' : Hp} {h : Heap}

theorem ROk.mono {k' : Nat} (x : ROk hq k A) (hk : k' ≤ k) : ROk hq k' A := ⟨x.hd, by have := x.depth; omega, by have := x.units; omega⟩
theorem FnOk.mono {f : Addr} {F : Fc} {k' : Nat} (x : FnOk G hq k f F) (hk : k ≤ k') : FnOk G hq k' f F := fun A ι H s vs cvs r => x A ι H s vs cvs (r.mono hk)

/-- the frame stays, whatever its callee did -/
theorem frames_mut (R : FsOk G (A.frames.getD []) ι h) {a : Addr} (ha : a ∈ frs A) : ∃ o, h.get? a = some o ∧ ∃ es n, o.data = .dict es n := by
  obtain ⟨e, he, hf⟩ := List.mem_filterMap.mp ha
  obtain ⟨_, L, o, h1, h2, h3, _⟩ := R e he
  obtain rfl : L = a := Option.some.inj (h1.symm.trans hf)
  exact ⟨o, h2, h3⟩

theorem FrOk.after (R : Rel G A env ι q s) {hv hl : Heap} (pre : ι <+: ι') (new : ∀ a ∈ ι', a ∈ ι ∨ s.heap.get? a = none)
    (up : ∀ a o, s.heap.get? a = some o → a ∉ ι → ∃ sl, hl.get? a = some { o with slots := sl })
    (ex : ∀ a o, s.heap.get? a = some o → a ∉ ι → a ∉ frs A → hv.get? a = some o) : FrOk G env q.l ι' hv hl := by
  have im : Imm s.heap hv := fun a o e hm => ⟨o.slots, ex a o e (fun hi => by
      obtain ⟨o', e', hm'⟩ := R.st.mut hi
      rw [e] at e'; cases e'; exact hm hm') fun hf => by
      obtain ⟨o', e', es, n, hd⟩ := frames_mut R.fs hf
      rw [e] at e'; cases e'; exact hm (.inr (.inl ⟨es, n, hd⟩))⟩
  have cellEx : ∀ c o v, s.heap.get? c = some o → o.data = .cell v → c ∈ own env → hv.get? c = some o := fun c o v e hd ho => ex c o e (R.fr.dis c ho) fun hf => by
      obtain ⟨o', e', es, n, hd'⟩ := frames_mut R.fs hf
      rw [e] at e'; cases e'; rw [hd] at hd'; cases hd'
  refine ⟨R.fr.kind, R.fr.glob, R.fr.blt, ?_, ?_, ?_, R.fr.ndup, ?_, R.fr.fresh⟩
  · obtain ⟨m, ⟨o, es, ep, ho, hd, r⟩, hm⟩ := R.fr.loc
    obtain ⟨sl, hs⟩ := up env.locals o ho (R.fr.dis _ (.head _))
    exact ⟨m, ⟨_, es, ep, hs, hd, r⟩, fun y v e e2 => let ⟨cv, a, b⟩ := hm y v e e2; ⟨cv, a, b.mono pre im⟩⟩
  · intro y v e e2
    obtain ⟨c, o, cv, h1, h2, h3, h4⟩ := R.fr.cel y v e e2
    exact ⟨c, o, cv, h1, cellEx c o _ h2 h3 (List.mem_cons_of_mem _ (List.mem_map.mpr ⟨_, mem_of_lookup h1, rfl⟩)), h3, h4.mono pre im⟩
  · intro p hp
    obtain ⟨o, ov, h1, h2⟩ := R.fr.cells p hp
    exact ⟨o, ov, cellEx p.2 o _ h1 h2 (List.mem_cons_of_mem _ (List.mem_map.mpr ⟨p, hp, rfl⟩)), h2⟩
  · intro a ha hi
    rcases new a hi with h1 | h1
    · exact R.fr.dis a ha h1
    · obtain ⟨o, e, _⟩ := R.fr.mut (fun _ _ e => e) ha
      rw [h1] at e; cases e

theorem Post.ofC (R : Rel G A env ι q s) (c : CPost G A ι s ι' H' s') : Post G A env ι s ι' ⟨q.l, H'⟩ s' where
  pre := c.pre
  rel := ⟨c.st, FrOk.after R c.pre c.new c.kp.up c.kp.ex, c.fs, c.gens, c.os⟩
  kp := ⟨c.kp.size, fun a o e hW => c.kp.up a o e fun h => hW (List.mem_append_right _ h), fun a o e hW hf => c.kp.ex a o e (fun h => hW (List.mem_append_right _ h)) hf⟩
  new := c.new

theorem XPost.ofC {c : String} {ev : Value} (ha : AOk hq k A env) (R : Rel G A env ι q s) (x : CXPost G A ι s c ι' H' s' ev) : XPost G A env ι s c ι' ⟨q.l, H'⟩ s' ev where
  pre := x.pre
  ex := by
    obtain ⟨e, C, B, a0, h1, h2, h3, h4, h5, h6⟩ := x.ex
    obtain ⟨fenv, rest, f1, f2, _⟩ := ha.fr
    have hm : fenv ∈ A.frames.getD [] := by rw [f1]; exact .head _
    obtain ⟨_, L, o, g1, _⟩ := R.fs fenv hm
    refine ⟨e, C, B, L, h1, h2, by rw [← f2]; exact g1, ?_, h4, FrOk.after R x.pre x.new x.up h6, h5, fun a o e' hW hf => h6 a o e' (fun h => hW (List.mem_append_right _ h)) hf⟩
    obtain ⟨b1, b2, b3, oe, vs, T, oT, ts, c1, ⟨c2, c2'⟩, c3, c4, c5, c6, c7, c8, c9⟩ := h3
    exact ⟨b1, b2, b3, oe, vs, a0, c1, c2, c3, c2', .inr ⟨T, oT, ts, .none, c4, c5, c6, c7, c8, c9, .inl rfl⟩⟩
  size := x.size
  up := fun a o e hW => x.up a o e fun h => hW (List.mem_append_right _ h)
  new := x.new
  gens := x.gens
  os := x.os

noncomputable def callF (F : Fc) (vs : List V) : Cm V := fun q => match F vs q.H with
  | .ok v H' => .ok v ⟨q.l, H'⟩
  | .exc c H' => .exc c ⟨q.l, H'⟩
  | .stuck => .stuck

abbrev wantV (Q : Value → Shared → Prop) (E : Value → Shared → Prop) : Result → Shared → Prop := fun r s' => match r with | .ok (.ret v) => Q v s' | .ok _ => False | .error e => E e s'

theorem P_call {f : Addr} {F : Fc} {k0 : Nat} (hF : FnOk G hq k0 f F) (hk : k0 ≤ k) (ha : AOk hq k A env) (R : Rel G A env ι q s) {vs : List V} {cvs : List Value} (hv : VRels G ι s.heap vs cvs) :
    Sat G A env ι s (callF F vs q) (VRel G) (fun Q E s => codeAny G.M A (.call (.ref f) ⟨cvs, []⟩) (wantV Q E) s) := by
  have hr := hF A ι q.H s vs cvs (ha.toROk.mono hk) (let ⟨fenv, rest, h1, _⟩ := ha.fr; ⟨_, h1⟩) R.st R.fs R.gens R.os hv
  unfold callF
  cases h : F vs q.H with
  | stuck => trivial
  | ok v H' => rw [h] at hr; exact fun Q E hQ => hr _ fun ι' cv s' c r => hQ ι' cv s' (Post.ofC R c) r
  | exc c H' => rw [h] at hr; exact fun Q E hQ => hr _ fun ι' ev s' x => hQ ι' ev s' (XPost.ofC ha R x)

theorem evalArgs_any {M : Model} {A : Around} {E : Value → Shared → Prop} {s : Shared} {f : Value} {Q : Args → Shared → Prop} : ∀ {args : List (Bool × Sem Value)}, args.any (·.1) = false →
    wpAny M A (spliced args) (fun vs s' => Q ⟨vs, []⟩ s') E s → wpAny M A (evalArgs f true args []) Q E s
  | [], _, h => by
    unfold evalArgs
    show wpAny M A (spliced [] >>= _) Q E s
    refine wpAny_bind (wpAny_mono h (fun vs s' h' => ?_) fun _ _ x => x)
    refine wpAny_bind (wpAny_pure ?_)
    refine wpAny_holding ?_
    exact wpAny_bind (wpAny_pure (wpAny_bind (wpAny_pure (wpAny_pure h'))))
  | (false, x) :: rest, _, h => Calls.evalArgs_plain h
  | (true, x) :: rest, hp, _ => by simp at hp

/-- a call of a def of the text, by its global name -/
theorem E_call (C : CxOk G) {x : String} {f : Addr} {F : Fc} {k0 : Nat} {es : List Expr} {p pos : Pos} {m : Cm (List V)} (hx : env.kindOf (Str.ofString x) = some .globalImplicit)
    (hv : nsIn G.K mainGlobals (Str.ofString x) = some (some (.ref f))) (hfn : fnIn G.K f = true) (hd : (Str.ofString x == ("__debug__" : Str)) = false) (hF : FnOk G hq k0 f F) (hk : k0 ≤ k) (h1 : EvL G hq k env es m)
    (hp : (backTo pos (starEach es env)).any (·.1) = false) :
    Ev G hq k env (.Call (.Name (Str.ofString x) p) es [] pos) (m.bnd fun vs => callF F vs) := by
  intro A ι q s ha R
  unfold fnIn at hfn
  split at hfn
  · rename_i oc od fd sl hl
    refine (Sat.bnd (T' := fun vs Q E s₁ => s₁.heap.get? f = some ⟨oc, od, .func fd, sl⟩ ∧ codeAny G.M A (.call (.ref f) ⟨vs, []⟩) (wantV Q E) s₁) (h1 pos A ι q s ha R) fun a q' ι' b s' _ P hv =>
      (P_call hF hk ha P.rel hv).imp fun Q E z => ⟨P.rel.st.keep _ _ (C.X _ _ hl), z⟩).imp fun Q E y => ?_
    show wpAny G.M A (do callWith pos (← eval (.Name (Str.ofString x) p) env) [] (backTo pos (starEach es env)) []) Q E s
    refine wpAny_bind (glob_load C R hx hv hd ?_)
    exact Calls.callWith_function (evalArgs_any hp (wpAny_mono y (fun vs s₁ z => ⟨⟨z.1, rfl⟩, wpAny_call z.2⟩) fun _ _ z => z))
  · cases hfn
end
end Mine

set_option Elab.async false
set_option linter.unusedVariables false
namespace Mine
open PySem PySem.W PyProof.Rows

section
variable {G : Cx} {hq : Bool} {k : Nat} {env : Env} {A : Around} {ι ι' : List Addr} {q : S} {s s' : Shared} {H H' : Hp} {h : Heap}

/-! ### methods -/
theorem call_method {M : Model} {A : Around} {E : Value → Shared → Prop} {s : Shared} {o : Expr} {name : Str} {apos pos : Pos} {args : List Expr} {Q : Value → Shared → Prop}
    (hbase : attributeBase o name env (eval o env) = eval o env) (hform : methodCallForm args.length (backTo pos (starEach args env)) [] = true) (hline : (apos.endLine == pos.line) = true)
    (h : wpAny M A (eval o env) (fun ov s₁ => wpAny M A (getMethod ov name (do return (← importBound o env).getD true)) (fun fp s₂ => wpAny M A (callWith pos fp.1 fp.2 (backTo pos (starEach args env)) []) Q E s₂) E s₁) E s) :
    wpAny M A (eval (.Call (.Attribute o name apos) args [] pos) env) Q E s := by
  rw [arm_eval_Call, hbase]
  refine wpAny_bind (wpAny_mono h (fun ov s₁ h₁ => wpAny_bind (wpAny_standAt ?_)) fun _ _ e => e)
  have hform' : methodCallForm (args.length + ([] : List Keyword).length) (backTo pos (starEach args env)) (backToKw pos (keywordEach [] env)) = true := hform
  have hpos : methodCallPos true o env apos pos = pure pos := by unfold methodCallPos; simp [hline]
  unfold methodCall
  rw [hform']
  show wpAny M A (holding [ov] (getMethod ov name _) >>= _) Q E s₁
  exact wpAny_bind (wpAny_holding (wpAny_mono h₁ (fun fp s₂ h₂ => wpAny_bind (wpAny_of_eq hpos h₂)) fun _ _ e => e))

/-! ### methods of lists and dicts -/
noncomputable def kindV (o : V) : Cm Bool := fun q => match o with
  | .ref i => (match q.H[i]? with | some (.list _) => .ok true q | some (.dict _) => .ok false q | _ => .stuck)
  | _ => .stuck
noncomputable def appendV (o v : V) : Cm V := fun q => match o with
  | .ref i => (match q.H[i]? with
    | some (.list xs) => if xs.length < 1000000 then .ok .none { q with H := q.H.set i (.list (xs ++ [v])) } else .stuck
    | _ => .stuck)
  | _ => .stuck
theorem kindV_ok {o : V} {q : S} : kindV o q = .stuck ∨ (∃ i xs, o = .ref i ∧ q.H[i]? = some (.list xs) ∧ kindV o q = .ok true q) ∨ (∃ i es, o = .ref i ∧ q.H[i]? = some (.dict es) ∧ kindV o q = .ok false q) := by
  unfold kindV
  split
  · rename_i i
    split
    · rename_i xs e; exact .inr (.inl ⟨i, xs, rfl, e, rfl⟩)
    · rename_i es e; exact .inr (.inr ⟨i, es, rfl, e, rfl⟩)
    · exact .inl rfl
  · exact .inl rfl

theorem P_append (C : CxOk G) {o v : V} {co cv : Value} (ha : ∃ hq k, AOk hq k A env) (R : Rel G A env ι q s) (h1 : VRel G ι s.heap o co) (h2 : VRel G ι s.heap v cv) :
    Sat G A env ι s (appendV o v q) (VRel G) (wpT G A (call (.builtin "list.append") [co, cv])) := by
  unfold appendV
  split
  · rename_i i
    obtain ⟨a, hi, rfl⟩ := h1
    split
    · rename_i xs e
      split
      · rename_i hl
        obtain ⟨a1, n1, vs, g1, g2, g3⟩ := R.st.list e
        obtain rfl : a = a1 := Option.some.inj (hi.symm.trans g1)
        refine Sat.set (tk := s.toks) R g1 (Heap.SameBut.update s.heap a (Obj.mapSeq fun x => x.push cv)) (fun im => ⟨vs ++ [cv], ?_, (g3.mono (List.prefix_refl _) im).append (vCons (h2.mono (List.prefix_refl _) im) vNil)⟩) (fun im => vNone) fun Q E hQ => ?_
        · have := g2.update fun x => x.push cv
          exact ⟨_, by simpa using this⟩
        · exact call_meets F.slot_list_append ⟨_, g2, rfl⟩ F.entry_list_append (F.args_list_append_2 _ _) (list_append a vs.toArray n1 cv (by rw [List.size_toArray, g3.length, sizeLine_eq]; omega)) ⟨g2, hQ⟩
      · trivial
    · trivial
  · trivial

/-- the names of list and dict methods that are served -/
structure BMeth (name : String) (kd : Bool) : Prop where
  slot : Slot (if kd then "list" else "dict") (Str.ofString name) ((if kd then "list." else "dict.") ++ name)
  ty : typeOf (.builtin ((if kd then "list." else "dict.") ++ name)) = pure (.type "method_descriptor")
theorem bm_append : BMeth "append" true := ⟨F.slot_list_append, F.type_list_append⟩
theorem get_bm {name : String} {kd : Bool} (B : BMeth name kd) {o : V} {co : Value} (R : Rel G A env ι q s) (h1 : VRel G ι s.heap o co) (hk : kindV o q = .ok kd q) {pl : Sem Bool} {Q : Value × List Value → Shared → Prop} {E : Value → Shared → Prop}
    (h : Q (.builtin ((if kd then "list." else "dict.") ++ name), [co]) s) : wpAny G.M A (getMethod co (Str.ofString name) pl) Q E s := by
  rcases kindV_ok (o := o) (q := q) with hst | ⟨i, xs, rfl, e, hk'⟩ | ⟨i, es, rfl, e, hk'⟩
  · rw [hst] at hk; cases hk
  · rw [hk'] at hk; cases hk
    obtain ⟨a1, n1, vs, g1, g2, g3⟩ := R.st.list e
    obtain ⟨a, hi, rfl⟩ := h1
    obtain rfl : a = a1 := Option.some.inj (hi.symm.trans g1)
    exact getMethod_builtin ⟨_, g2, rfl⟩ F.plainAttrs_list B.slot B.ty (fun b e => by cases e; exact ⟨_, g2, rfl⟩) h
  · rw [hk'] at hk; cases hk
    obtain ⟨a1, kvs, g1, g2, g3⟩ := R.st.dict e
    obtain ⟨a, hi, rfl⟩ := h1
    obtain rfl : a = a1 := Option.some.inj (hi.symm.trans g1)
    exact getMethod_builtin g2.mapOf.typeIs F.plainAttrs_dict B.slot B.ty g2.mapOf.noDict h

/-- a method of one argument, of lists (kd) or of dicts -/
theorem E_bm1 (C : CxOk G) {name : String} (kd : Bool) {f : V → V → Cm V} (B : BMeth name kd)
    (hP : ∀ {A : Around} {ι : List Addr} {q : S} {s : Shared} {o v : V} {co cv : Value}, (∃ hq k, AOk hq k A env) → Rel G A env ι q s → VRel G ι s.heap o co → VRel G ι s.heap v cv → Sat G A env ι s (f o v q) (VRel G) (wpT G A (call (.builtin ((if kd then "list." else "dict.") ++ name)) [co, cv])))
    {o e : Expr} {apos pos : Pos} {m0 m1 : Cm V} (h0 : Ev G hq k env o m0) (h1 : Ev G hq k env e m1)
    (hbase : attributeBase o (Str.ofString name) env (eval o env) = eval o env) (hform : methodCallForm 1 (backTo pos (starEach [e] env)) [] = true) (hline : (apos.endLine == pos.line) = true)
    (he : starEach [e] env = (false, eval e env) :: starEach [] env) (hp : (backTo pos (starEach [e] env)).any (·.1) = false) :
    Ev G hq k env (.Call (.Attribute o (Str.ofString name) apos) [e] [] pos) (m0.bnd fun o => (kindV o).bnd fun kd' => if kd' = kd then m1.bnd fun v => f o v else .stk) := by
  intro A ι q s ha R
  refine (Sat.bnd (T' := fun ov Q E s₁ => wpAny G.M A (getMethod ov (Str.ofString name) (do return (← importBound o env).getD true)) (fun fp s₂ => wpAny G.M A (callWith pos fp.1 fp.2 (backTo pos (starEach [e] env)) []) Q E s₂) E s₁)
      (h0 A ι q s ha R) fun v q' ι' b s' _ P hv => ?_).imp fun Q E y => call_method hbase hform hline y
  have fin : kindV v q' = .ok kd q' → Sat G A env ι' s' ((m1.bnd fun w => f v w) q') (VRel G) (fun Q E s₁ => wpAny G.M A (getMethod b (Str.ofString name) (do return (← importBound o env).getD true)) (fun fp s₂ => wpAny G.M A (callWith pos fp.1 fp.2 (backTo pos (starEach [e] env)) []) Q E s₂) E s₁) := by
    intro hk
    refine (Sat.bnd (T' := fun w Q E s₁ => wpAny G.M A (call (.builtin ((if kd then "list." else "dict.") ++ name)) [b, w]) Q E s₁) (h1 A ι' q' s' ha P.rel) fun w q2 ι2 b2 s2 _ P2 hv2 => hP ⟨_, _, ha⟩ P2.rel (P2.vrel P.rel hv) hv2).imp fun Q E y => ?_
    refine get_bm B P.rel hv hk (Calls.callWith_builtin hp (evalArgs_any hp (wpAny_items_cons (wpAny_mono y (fun w s₁ z => wpAny_items_nil z) fun _ _ z => z) he)))
  rcases kindV_ok (o := v) (q := q') with hst | ⟨i, xs, rfl, e', hk'⟩ | ⟨i, es, rfl, e', hk'⟩
  · rw [bnd_stuck hst]; trivial
  · rw [bnd_ok hk']
    by_cases hb : true = kd
    · rw [if_pos hb]; exact fin (hb ▸ hk')
    · rw [if_neg hb]; trivial
  · rw [bnd_ok hk']
    by_cases hb : false = kd
    · rw [if_pos hb]; exact fin (hb ▸ hk')
    · rw [if_neg hb]; trivial
end
end Mine

set_option Elab.async false
set_option linter.unusedVariables false
namespace Mine
open PySem PySem.W PyProof.Rows

section
variable {G : Cx} {hq : Bool} {k : Nat} {env : Env} {A : Around} {ι ι' : List Addr} {q : S} {s s' : Shared} {H H' : Hp} {h : Heap}

/-! ### built-ins by name -/
noncomputable def CallsBy (bv : Value) : Prop := ∀ (M : Model) (A : Around) (pos : Pos) (args : List (Bool × Sem Value)) (Q : Value → Shared → Prop) (E : Value → Shared → Prop) (s : Shared), args.any (·.1) = false →
  wpAny M A (evalArgs bv true args []) (fun a s₁ => wpAny M A (call bv ([] ++ a.pos) a.kw) Q E s₁) E s → wpAny M A (callWith pos bv [] args []) Q E s
theorem callsBy_builtin (id : String) : CallsBy (.builtin id) := fun _ _ _ _ _ _ _ hp h => Calls.callWith_builtin hp h
theorem callsBy_type (T : String) : CallsBy (.type T) := fun _ _ _ _ _ _ _ hp h => callWith_excType hp h

theorem E_blt (C : CxOk G) {x : String} {bv : Value} {es : List Expr} {p pos : Pos} {m : Cm (List V)} {f : List V → Cm V} (hx : env.kindOf (Str.ofString x) = some .globalImplicit) (hv : nsIn G.K mainGlobals (Str.ofString x) = some none)
    (hb : bootBuiltins (Str.ofString x) = some bv) (hn : Str.ofString x ≠ "__name__") (hd : (Str.ofString x == ("__debug__" : Str)) = false) (hc : CallsBy bv) (h1 : EvL G hq k env es m) (hp : (backTo pos (starEach es env)).any (·.1) = false)
    (hf : ∀ A ι q s vs cvs, AOk hq k A env → Rel G A env ι q s → VRels G ι s.heap vs cvs → Sat G A env ι s (f vs q) (VRel G) (wpT G A (call bv cvs))) :
    Ev G hq k env (.Call (.Name (Str.ofString x) p) es [] pos) (m.bnd fun vs => f vs) := by
  intro A ι q s ha R
  refine (Sat.bnd (T' := fun vs Q E s₁ => wpAny G.M A (call bv vs) Q E s₁) (h1 pos A ι q s ha R) fun a q' ι' b s' _ P hv => hf A ι' q' s' a b ha P.rel hv).imp fun Q E y => ?_
  show wpAny G.M A (do callWith pos (← eval (.Name (Str.ofString x) p) env) [] (backTo pos (starEach es env)) []) Q E s
  refine wpAny_bind (blt_load C R hx hv hb hn hd ?_)
  exact hc _ _ _ _ _ _ _ hp (evalArgs_any hp (wpAny_mono y (fun vs s₁ z => z) fun _ _ z => z))

noncomputable def lenV (sn : List Int) : List V → Cm V
  | [.ref i] => fun q => (match q.H[i]? with
    | some (.list xs) => if xs.length < 1000000 then .ok (.int xs.length) q else .stuck
    | _ => .stuck)
  | [.tup xs] => if xs.length < 1000000 then .pur (.int xs.length) else .stk
  | [.scr] => .pur (.int sn.length)
  | _ => .stk
theorem P_len (C : CxOk G) (R : Rel G A env ι q s) {vs : List V} {cvs : List Value} (hv : VRels G ι s.heap vs cvs) : Sat G A env ι s (lenV G.sn vs q) (VRel G) (wpT G A (call (.builtin "len") cvs)) := by
  unfold lenV
  split
  · obtain ⟨cv, _, rfl, h1, h2⟩ := hv; rw [show _ = [] from h2]
    obtain ⟨a, hi, rfl⟩ := h1
    split
    · rename_i xs e
      split
      · rename_i hl
        obtain ⟨a1, n1, vs, g1, g2, g3⟩ := R.st.list e
        obtain rfl : a = a1 := Option.some.inj (hi.symm.trans g1)
        have : ((vs.toArray.size : Nat) : Int) = (xs.length : Int) := by rw [List.size_toArray, g3.length]
        exact Sat.ret R (vInt _ _) fun Q E hQ => Calls.call_len_list g2.isList (by rw [this]; omega) (by rw [this]; exact hQ)
      · trivial
    · trivial
  · rename_i xs
    obtain ⟨cv, _, rfl, h1, h2⟩ := hv; rw [show _ = [] from h2]
    obtain ⟨a, ws, rfl, ht, hw⟩ := h1
    split
    · rename_i hl
      have : ((ws.toArray.size : Nat) : Int) = (xs.length : Int) := by rw [List.size_toArray, hw.length]
      exact Sat.ret R (vInt _ _) fun Q E hQ => len_tuple ht (by rw [this]; omega) (by rw [this]; exact hQ)
    · trivial
  · obtain ⟨cv, _, rfl, h1, h2⟩ := hv; rw [show _ = [] from h2]
    rw [show cv = .ref G.sa from h1]
    have hl : s.heap.IsList G.sa G.sv.toArray := C.scr.at fun o e => R.st.keep _ _ e
    have : ((G.sv.toArray.size : Nat) : Int) = (G.sn.length : Int) := by rw [List.size_toArray, IntsAre.length C.isInts]
    have hs := C.short
    exact Sat.ret R (vInt _ _) fun Q E hQ => Calls.call_len_list hl (by rw [this]; omega) (by rw [this]; exact hQ)
  · trivial

noncomputable def listOfV (sn : List Int) : List V → Cm V
  | [o] => fun q => (match itemsOf sn o q.H with
    | some xs => if xs.length ≤ 1000000 then .ok (.ref q.H.length) { q with H := q.H ++ [.list xs] } else .stuck
    | none => .stuck)
  | _ => .stk
theorem P_listOf (C : CxOk G) (R : Rel G A env ι q s) {vs : List V} {cvs : List Value} (hv : VRels G ι s.heap vs cvs) : Sat G A env ι s (listOfV G.sn vs q) (VRel G) (wpT G A (call (.type "list") cvs)) := by
  unfold listOfV
  split
  · obtain ⟨cv, _, rfl, h1, h2⟩ := hv; rw [show _ = [] from h2]
    split
    · rename_i xs e
      split
      · rename_i hl
        obtain ⟨l, vs, rfl, g1, g2⟩ := items_at C R.st h1 e
        obtain ⟨o, ho, hc, n, hd⟩ := g1
        intro Q E hQ
        refine call_list_seq l (.inl rfl) ho hc hd (fun h' c' hk hD => ?_) (by rw [List.size_toArray, g2.length, sizeLine_eq]; omega)
        exact hQ _ _ _ (Post.alloc (tk := s.toks) R hk (Heap.get?_none_of_le (Nat.le_refl _)) ⟨vs, ⟨c', hD⟩, g2.mono (List.prefix_append _ _) (.of_stays hk)⟩) (vRef_new R.st _)
      · trivial
    · trivial
  · trivial
noncomputable def tupleOfV (sn : List Int) : List V → Cm V
  | [o] => fun q => (match itemsOf sn o q.H with
    | some xs => if xs.length ≤ 1000000 then .ok (.tup xs) q else .stuck
    | none => .stuck)
  | _ => .stk
theorem P_tupleOf (C : CxOk G) (R : Rel G A env ι q s) {vs : List V} {cvs : List Value} (hv : VRels G ι s.heap vs cvs) : Sat G A env ι s (tupleOfV G.sn vs q) (VRel G) (wpT G A (call (.type "tuple") cvs)) := by
  unfold tupleOfV
  split
  · obtain ⟨cv, _, rfl, h1, h2⟩ := hv; rw [show _ = [] from h2]
    split
    · rename_i xs e
      split
      · rename_i hl
        obtain ⟨l, vs, rfl, g1, g2⟩ := items_at C R.st h1 e
        intro Q E hQ
        refine call_tuple_list g1 (fun h' hk => ?_) (by rw [List.size_toArray, g2.length, sizeLine_eq]; omega)
        have st : s.heap.StaysIn (h'.push { cls := .type "tuple", data := .seq vs.toArray }) := fun b o e => Heap.get?_push_of_some _ (hk b o e)
        refine hQ _ _ _ (Post.stays (tk := s.toks) R st) ⟨_, vs, rfl, ⟨_, Heap.get?_push_size _ rfl, rfl, 0, rfl⟩, g2.mono (List.prefix_refl _) (.of_stays st)⟩
      · trivial
    · trivial
  · trivial

/-! ### isinstance -/
noncomputable def tyOf (sn : List Int) (H : Hp) : V → Option String
  | .none => some "NoneType"
  | .bool _ => some "bool"
  | .int _ => some "int"
  | .str _ => some "str"
  | .tup _ => some "tuple"
  | .scr => some "list"
  | .ref i => (match H[i]? with | some (.list _) => some "list" | some (.dict _) => some "dict" | _ => none)
  | _ => none
noncomputable def isiV (sn : List Int) (T : String) (v : V) : Cm V := fun q => match tyOf sn q.H v with
  | some t => .ok (.bool (t == T || (t == "bool" && T == "int"))) q
  | none => .stuck
theorem kit_of (C : CxOk G) (R : StOk G ι H h) {v : V} {cv : Value} {t : String} (r : VRel G ι h v cv) (e : tyOf G.sn H v = some t) : ∃ P : Heap → Prop, KitX G.K cv (.type t) P ∧ P h ∧ cv ≠ .builtin "__main__.__loader__#opaque" ∧ (t = "NoneType" ∨ t = "bool" ∨ t = "int" ∨ t = "str" ∨ t = "tuple" ∨ t = "list" ∨ t = "dict") := by
  unfold tyOf at e
  split at e
  · cases e; rw [show cv = .none from r]; exact ⟨_, kitx_none, trivial, (by intro q; cases q), by simp⟩
  · cases e; rw [show cv = .bool _ from r]; exact ⟨_, kitx_bool, trivial, (by intro q; cases q), by simp⟩
  · cases e; obtain ⟨t, rfl⟩ := r; exact ⟨_, kitx_int, trivial, (by intro q; cases q), by simp⟩
  · cases e; obtain ⟨t, rfl⟩ := r; exact ⟨_, kitx_str, trivial, (by intro q; cases q), by simp⟩
  · cases e; obtain ⟨a, vs, rfl, ⟨o, ho, hc, _⟩, _⟩ := r; exact ⟨_, kitx_tuple, ⟨o, ho, hc⟩, (by intro q; cases q), by simp⟩
  · cases e
    obtain ⟨o, ho, hc, _⟩ := C.scr
    rw [show cv = .ref G.sa from r]
    exact ⟨_, kitx_list, ⟨o, R.keep _ _ ho, hc⟩, (by intro q; cases q), by simp⟩
  · split at e
    · rename_i hx; cases e
      obtain ⟨a, hi, rfl⟩ := r
      obtain ⟨a1, n1, vs, g1, g2, g3⟩ := R.list hx
      obtain rfl : a = a1 := Option.some.inj (hi.symm.trans g1)
      exact ⟨_, kitx_list, ⟨_, g2, rfl⟩, (by intro q; cases q), by simp⟩
    · rename_i hx; cases e
      obtain ⟨a, hi, rfl⟩ := r
      obtain ⟨a1, kvs, g1, ⟨o, es, ep, ho, hc, _⟩, g3⟩ := R.dict hx
      obtain rfl : a = a1 := Option.some.inj (hi.symm.trans g1)
      exact ⟨_, kitx_dict, ⟨_, ho, hc.1⟩, (by intro q; cases q), by simp⟩
    · cases e
  · cases e

noncomputable def isiTab (K : Frag) (T : String) : Bool := (["NoneType", "bool", "int", "str", "tuple", "list", "dict"]).all fun t => kitOne K (.type t) (.type T) == some (t == T || (t == "bool" && T == "int"))

theorem P_isi (C : CxOk G) {T : String} (hT : isiTab G.K T = true) {v : V} {cv : Value} (R : Rel G A env ι q s) (hv : VRel G ι s.heap v cv) : Sat G A env ι s (isiV G.sn T v q) (VRel G) (wpT G A (call (.builtin "isinstance") [cv, .type T])) := by
  unfold isiV
  split
  · rename_i t e
    obtain ⟨P, Z, p, hne, ht⟩ := kit_of C R.st hv e
    have hk : kitOne G.K (.type t) (.type T) = some (t == T || (t == "bool" && T == "int")) := by
      unfold isiTab at hT
      rw [List.all_eq_true] at hT
      exact beq_iff_eq.mp (hT t (by rcases ht with rfl | rfl | rfl | rfl | rfl | rfl | rfl <;> decide))
    exact fun Q E hQ => kia_one Z (C.X.keeps R.st.keep) p hk hne fun tk => hQ ι _ _ (Post.toks R tk) (vBool _)
  · trivial

/-- isinstance(e, T) for a built-in class T -/
theorem E_isi (C : CxOk G) {T : String} (hT : isiTab G.K T = true) {e : Expr} {p p2 pos : Pos} {m : Cm V} (hx : env.kindOf (Str.ofString "isinstance") = some .globalImplicit) (hv : nsIn G.K mainGlobals (Str.ofString "isinstance") = some none)
    (hx2 : env.kindOf (Str.ofString T) = some .globalImplicit) (hv2 : nsIn G.K mainGlobals (Str.ofString T) = some none) (hb2 : bootBuiltins (Str.ofString T) = some (.type T)) (hn2 : Str.ofString T ≠ "__name__")
    (hd2 : (Str.ofString T == ("__debug__" : Str)) = false) (h1 : Ev G hq k env e m) (he : starEach [e, .Name (Str.ofString T) p2] env = (false, eval e env) :: starEach [.Name (Str.ofString T) p2] env)
    (hp : (backTo pos (starEach [e, .Name (Str.ofString T) p2] env)).any (·.1) = false) :
    Ev G hq k env (.Call (.Name (Str.ofString "isinstance") p) [e, .Name (Str.ofString T) p2] [] pos) (m.bnd fun v => isiV G.sn T v) := by
  intro A ι q s ha R
  refine (Sat.bnd (T' := fun v Q E s₁ => wpAny G.M A (eval (.Name (Str.ofString T) p2) env) (fun w s₂ => wpAny G.M A (call (.builtin "isinstance") [v, w]) Q E s₂) E s₁) (h1 A ι q s ha R) fun a q' ι' b s' _ P hv' =>
    (P_isi C hT P.rel hv').imp fun Q E z => blt_load C P.rel hx2 hv2 hb2 hn2 hd2 z).imp fun Q E y => ?_
  show wpAny G.M A (do callWith pos (← eval (.Name (Str.ofString "isinstance") p) env) [] (backTo pos (starEach [e, .Name (Str.ofString T) p2] env)) []) Q E s
  refine wpAny_bind (blt_load C R hx hv (v := .builtin "isinstance") (by decide +kernel) (by decide) (by decide) ?_)
  refine Calls.callWith_builtin hp (evalArgs_any hp (wpAny_items_cons (wpAny_mono y (fun v s₁ z => wpAny_items_cons (wpAny_mono z (fun w s₂ u => wpAny_items_nil u) fun _ _ u => u)) fun _ _ z => z) he))
end
end Mine

set_option Elab.async false
set_option linter.unusedVariables false
namespace Mine
open PySem PySem.W PyProof.Rows

section
variable {G : Cx} {hq : Bool} {k : Nat} {env : Env} {A : Around} {ι ι' : List Addr} {q q' : S} {s s' : Shared} {H H' : Hp} {h : Heap}

/-! ### exceptions within a frame -/
theorem noteFrame_eq {x : Value} {env env' : Env} (e : env.frame = env'.frame) : noteFrame x env = noteFrame x env' := by
  unfold noteFrame PySem.frameOf; rw [e]

theorem FsOk.slots {fs : List Env} {h h' : Heap} (x : FsOk G fs ι h) (k : h.UpToSlots h') : FsOk G fs ι h' := fun env he => by
  obtain ⟨a, L, o, b, c, ⟨es, n, d⟩, f⟩ := x env he
  obtain ⟨sl, hs⟩ := k L o c fun vs q => by rw [d] at q; cases q
  exact ⟨a, L, _, b, hs, ⟨es, n, d⟩, f⟩
theorem FrOk.slots {l : Loc} {hv hl hl' : Heap} (x : FrOk G env l ι hv hl) (k : hl.UpToSlots hl') : FrOk G env l ι hv hl' :=
  ⟨x.kind, x.glob, x.blt, let ⟨m, hn, hm⟩ := x.loc; ⟨m, k.ns hn, hm⟩, x.cel, x.cells, x.ndup, x.dis, x.fresh⟩

theorem XPost.at {c : String} {ev : Value} {e C L : Addr} {B : Heap} {h'' : Heap} (x : XPost G A env ι s c ι' q' s' ev) (h1 : ev = .ref e) (h2 : G.xcl c = some C) (h3 : env.frame = some L)
    (fl : Flight B (A.frames.getD []) L e (.ref C) h'') (h5 : StOk G ι' q'.H B) (h6 : FrOk G env q'.l ι' B s'.heap) (h7 : FsOk G (A.frames.getD []) ι' s'.heap)
    (h8 : ∀ a o, s.heap.get? a = some o → a ∉ own env ++ ι → a ∉ frs A → B.get? a = some o) (up : s'.heap.UpToSlots h'') : XPost G A env ι s c ι' q' { s' with heap := h'' } ev := by
  have fs := h7.slots up
  have fr := h6.slots up
  refine ⟨x.pre, ⟨e, C, B, L, h1, h2, h3, fl, h5, fr, fs, h8⟩, ?_, ?_, x.new, x.gens, x.os⟩
  · intro a o ea
    by_cases h1 : a ∈ own env
    · obtain ⟨o', e', _⟩ := fr.mut fl.1 h1; exact ⟨o', e'⟩
    · by_cases h2 : a ∈ ι
      · obtain ⟨i, hi⟩ := List.mem_iff_getElem?.mp h2
        have hi' := getElem?_prefix x.pre hi
        obtain ⟨oa, hoa⟩ : ∃ oa, q'.H[i]? = some oa := ⟨_, List.getElem?_eq_getElem (h5.len ▸ (List.getElem?_eq_some_iff.mp hi').1)⟩
        obtain ⟨o', e'⟩ := (h5.obj i a oa hi' hoa).there
        exact ⟨o', fl.1 _ _ e'⟩
      · by_cases h3 : a ∈ frs A
        · obtain ⟨o', e', _⟩ := frames_mut fs h3; exact ⟨o', e'⟩
        · exact ⟨o, fl.1 _ _ (h8 a o ea (fun hm => (List.mem_append.mp hm).elim h1 h2) h3)⟩
  · intro a o ea hW
    by_cases h3 : a ∈ frs A
    · obtain ⟨sl, e1⟩ := x.up a o ea hW
      obtain ⟨o', e', es, n, d⟩ := frames_mut h7 h3
      rw [e1] at e'; cases e'
      obtain ⟨sl2, e2⟩ := up a _ e1 fun vs q => by rw [d] at q; cases q
      exact ⟨sl2, e2⟩
    · exact ⟨o.slots, fl.1 _ _ (h8 a o ea hW h3)⟩

/-- noted in its frame -/
noncomputable def Held (env : Env) (e : Addr) (h : Heap) : Prop := ∃ L oe vs T oT ts, env.frame = some L ∧ h.get? e = some oe ∧ oe.data = .fields vs ∧ vs[1]? = some (.ref T) ∧ h.get? T = some oT ∧ oT.data = .fields ts ∧ ts[3]? = some (rawInt L)

theorem XPost.noted {c : String} {ev : Value} {Q : Unit → Shared → Prop} {E : Value → Shared → Prop} (ha : AOk hq k A env) (x : XPost G A env ι s c ι' q' s' ev)
    (hQ : ∀ e s'', ev = .ref e → Held env e s''.heap → XPost G A env ι s c ι' q' s'' ev → Q () s'') : wpAny G.M A (noteFrame ev env) Q E s' := by
  obtain ⟨e, C, B, L, rfl, h2, h3, fl, h5, h6, h7, h8⟩ := x.ex
  obtain ⟨fenv, rest, f1, f2, _⟩ := ha.fr
  have hfs : A.frames.getD [] = fenv :: rest := by rw [f1]; rfl
  obtain ⟨b1, b2, b3, oe, vs, a0, c1, c2, c3, c4, c5⟩ := id fl
  rw [hfs] at b3
  rw [noteFrame_eq f2.symm]
  rcases c5 with c5 | ⟨T, oT, ts, fl', d1, d2, d3, d4, d5, d6, d7⟩
  · unfold noteFrame
    simp only [f2.trans h3]
    refine wpAny_bind (wpAny_field c1 c3 c5 ?_)
    rw [if_neg (by decide)]
    refine wpAny_entryW f1 b3 (f2.trans h3) c1 b1 b2 c3 (Array.getElem?_eq_some_iff.mp c5).1 c4 fun h' hN => ?_
    obtain ⟨k1, k2, ⟨oe', vs', T, oT, ts, e1, e2, e3, e4, e5, e6, e7, e8, e9⟩, k4⟩ := hN
    refine hQ e _ rfl ⟨L, oe', vs', T, oT, ts, h3, e1, e3, e4, e7, e8, e9⟩ (x.at rfl h2 h3 ?_ h5 h6 h7 h8 k4)
    exact ⟨k1, b2, by rw [hfs]; exact k2, oe', vs', a0, e1, e2.1.trans c2, e3, e2.2, .inr ⟨T, oT, ts, rawInt L, e4, e5, e6, e7, e8, e9, .inr rfl⟩⟩
  · rcases d7 with rfl | rfl
    · refine wpAny_noteFrame_onW f1 b3 (f2.trans h3) ⟨oe, vs, T, oT, ts, c1, ⟨c2, c4⟩, c3, d1, d2, d3, d4, d5, d6⟩ b1 b2 fun h' hN => ?_
      obtain ⟨k1, k2, ⟨oe', vs', T, oT, ts, e1, e2, e3, e4, e5, e6, e7, e8, e9⟩, k4⟩ := hN
      refine hQ e _ rfl ⟨L, oe', vs', T, oT, ts, h3, e1, e3, e4, e7, e8, e9⟩ (x.at rfl h2 h3 ?_ h5 h6 h7 h8 k4)
      exact ⟨k1, b2, by rw [hfs]; exact k2, oe', vs', a0, e1, e2.1, e3, e2.2, .inr ⟨T, oT, ts, rawInt L, e4, e5, e6, e7, e8, e9, .inr rfl⟩⟩
    · exact wpAny_noteFrame_againW (f2.trans h3) ⟨oe, vs, T, oT, ts, c1, ⟨c2, c4⟩, c3, d1, d2, d3, d4, d5, d6⟩ (hQ e _ rfl ⟨L, oe, vs, T, oT, ts, h3, c1, c3, d1, d4, d5, d6⟩ x)

theorem cameBack {e : Addr} {E : Value → Shared → Prop} (hh : Held env e s.heap) (hE : E (.ref e) s) : cameBackBy G.M A env E (.ref e) s := by
  obtain ⟨L, oe, vs, T, oT, ts, h0, h1, h2, h3, h4, h5, h6⟩ := hh
  show wpAny _ _ _ _ _ _
  refine wpAny_bind (wpAny_field h1 h2 h3 ?_)
  rw [if_neg (show ¬ ((Value.ref T == Value.none) = true) from by simp)]
  have step : wpAny G.M A (setFlight (.ref e) env.frame) (fun _ s'' => E (.ref e) s'') E s := by
    unfold setFlight
    refine wpAny_bind (wpAny_field h1 h2 h3 ?_)
    rw [if_pos (show (Value.ref T != Value.none) = true from by simp), h0]
    refine wpAny_setField h4 h5 (Array.getElem?_eq_some_iff.mp h6).1 ?_
    show E (.ref e) { s with heap := s.heap.update T (Obj.mapFields (·.setIfInBounds 3 (rawInt L))) }
    rw [Heap.update_setField_same s.heap T oT ts 3 (rawInt L) h4 h5 h6]
    exact hE
  first
    | exact wpAny_bind (wpAny_pure step)
    | exact step

theorem XPost.passes {c : String} {ev : Value} {E : Value → Shared → Prop} (ha : AOk hq k A env) (x : XPost G A env ι s c ι' q' s' ev) (hE : ∀ s'', XPost G A env ι s c ι' q' s'' ev → E ev s'') :
    notedBy G.M A env (cameBackBy G.M A env E) ev s' :=
  XPost.noted ha x fun e s'' he hh y => by subst he; exact cameBack hh (hE s'' y)
end
end Mine

set_option Elab.async false
set_option linter.unusedVariables false
namespace Mine
open PySem PySem.W PyProof.Rows

/-! ### loops -/
structure It where
  xs : List V
  g : Hp → Prop

structure Itr (G : Cx) (A : Around) (target : Expr) (I : Addr) (priv : List Addr) (ι0 : List Addr) (it : It) (St : Nat → Heap → Prop) : Prop where
  mu : ∀ i h, St i h → ∀ b ∈ priv, ∃ o, h.get? b = some o ∧ Mut o
  frame : ∀ i h h', St i h → (∀ b ∈ priv, ∀ o, h.get? b = some o → h'.get? b = some o) → St i h'
  item : ∀ i x (s : Shared) ι H (Q : Value → Shared → Prop) E, it.xs[i]? = some x → ι0 <+: ι → (∀ b ∈ priv, b ∉ ι) → StOk G ι H s.heap → it.g H → St i s.heap →
    (∀ v h' tk, (∀ b o, b ∉ priv → s.heap.get? b = some o → h'.get? b = some o) → VRel G ι h' x v → St (i + 1) h' → Q v { s with heap := h', toks := tk }) →
    wpAny G.M A (pyNext (.ref I)) (fun r s₁ => match r with | none => False | some v => wpAny G.M A (letOwnedTupleGo target (.ref I) v) (fun _ s₂ => Q v s₂) E s₁) E s
  done : ∀ (s : Shared) ι H (Q : Shared → Prop) E, ι0 <+: ι → (∀ b ∈ priv, b ∉ ι) → StOk G ι H s.heap → it.g H → St it.xs.length s.heap →
    (∀ h' tk, (∀ b o, b ∉ priv → s.heap.get? b = some o → h'.get? b = some o) → Q { s with heap := h', toks := tk }) →
    wpAny G.M A (pyNext (.ref I)) (fun r s₁ => match r with | none => Q s₁ | some v => False) E s
  self : ∀ i (s : Shared) (Q : Value → Shared → Prop) (E : Value → Shared → Prop), St i s.heap → Q (.ref I) s → wpAny G.M A (pyIter (.ref I)) Q E s

noncomputable def ItRel (G : Cx) (A : Around) (target : Expr) (h0 : Heap) (ι : List Addr) (h : Heap) (it : It) (cv : Value) : Prop :=
  ∃ I priv St, cv = .ref I ∧ St 0 h ∧ (∀ b ∈ priv, h0.get? b = none ∧ b ∉ ι) ∧ (∀ H, StOk G ι H h → True) ∧ Itr G A target I priv ι it St

/-- the iterable's evaluation, and its iterator -/
noncomputable def EvI (G : Cx) (hq : Bool) (k : Nat) (env : Env) (target iter : Expr) (m : Cm It) : Prop :=
  ∀ A ι q s, AOk hq k A env → Rel G A env ι q s → Sat G A env ι s (m q) (fun ι' h it cv => ItRel G A target s.heap ι' h it cv ∧ ∀ q', m q = .ok it q' → it.g q'.H)
    (fun Q E s => wpAny G.M A (eval iter env) (fun x s₁ => wpAny G.M A (pyIter x) Q E s₁) E s)

open Classical in
noncomputable def turnV (g : Hp → Prop) (rest : Cm Fl) : Fl → Cm Fl
  | .next => fun q => if g q.H then rest q else .stuck
  | .ret v => .pur (.ret v)
noncomputable def forV (g : Hp → Prop) (bd : V → Cm Unit) (body : Cm Fl) : List V → Cm Fl
  | [] => .pur .next
  | v :: r => (bd v).bnd fun _ => body.bnd (turnV g (forV g bd body r))

noncomputable def AsgOk (G : Cx) (hq : Bool) (k : Nat) (env : Env) (target : Expr) (bd : V → Cm Unit) : Prop :=
  ∀ A ι q s v cv, AOk hq k A env → Rel G A env ι q s → VRel G ι s.heap v cv → Sat G A env ι s (bd v q) (fun _ _ _ _ => True) (wpT G A (assign target env cv))

section
variable {G : Cx} {hq : Bool} {k : Nat} {env : Env} {A : Around} {ι ι' : List Addr} {q q' : S} {s s' : Shared} {H H' : Hp} {h : Heap}

theorem Sat.of {α β : Type} {r : Res S α} {REL : List Addr → Heap → α → β → Prop} {T : PT β}
    (h : ∀ Q E, Fin G A env ι s r REL Q E → T Q E s) : Sat G A env ι s r REL T := by
  cases r with
  | ok a q' => exact fun Q E x => h Q E x
  | exc c q' => exact fun Q E x => h Q E x
  | stuck => trivial

/-- things of no abstract object change -/
theorem Rel.off {priv : List Addr} {h' : Heap} {tk : Nat} (R : Rel G A env ι q s) (hi : ∀ b ∈ priv, b ∉ ι ∧ b ∉ own env ∧ b ∉ frs A ∧ G.hB.get? b = none) (hm : ∀ b ∈ priv, ∃ o, s.heap.get? b = some o ∧ Mut o)
    (hk : ∀ b o, b ∉ priv → s.heap.get? b = some o → h'.get? b = some o) : Rel G A env ι q { s with heap := h', toks := tk } ∧ Imm s.heap h' := by
  have im : Imm s.heap h' := fun a o e hmu => ⟨o.slots, hk a o (fun hp => by obtain ⟨o', e', m'⟩ := hm a hp; rw [e] at e'; cases e'; exact hmu m') e⟩
  have pr : ι <+: ι := List.prefix_refl _
  refine ⟨⟨⟨fun b o e => hk b o (fun hp => by rw [(hi b hp).2.2.2] at e; cases e) (R.st.keep b o e), R.st.len, R.st.nodup, R.st.fresh, fun i a o e1 e2 => ?_⟩,
    ⟨R.fr.kind, R.fr.glob, R.fr.blt, ?_, ?_, ?_, R.fr.ndup, R.fr.dis, R.fr.fresh⟩, ?_, R.gens, R.os⟩, im⟩
  · exact (R.st.obj i a o e1 e2).at pr im fun o' e => hk a o' (fun hp => (hi a hp).1 (List.mem_of_getElem? e1)) e
  · obtain ⟨m, hn, hmm⟩ := R.fr.loc
    exact ⟨m, hn.at' fun o e => hk _ o (fun hp => (hi _ hp).2.1 (.head _)) e, fun y v e e2 => let ⟨cv, a, b⟩ := hmm y v e e2; ⟨cv, a, b.mono pr im⟩⟩
  · intro y v e e2
    obtain ⟨c, o, cv, h1, h2, h3, h4⟩ := R.fr.cel y v e e2
    exact ⟨c, o, cv, h1, hk c o (fun hp => (hi c hp).2.1 (List.mem_cons_of_mem _ (List.mem_map.mpr ⟨_, mem_of_lookup h1, rfl⟩))) h2, h3, h4.mono pr im⟩
  · intro p hp
    obtain ⟨o, ov, h1, h2⟩ := R.fr.cells p hp
    exact ⟨o, ov, hk p.2 o (fun hp' => (hi _ hp').2.1 (List.mem_cons_of_mem _ (List.mem_map.mpr ⟨p, hp, rfl⟩))) h1, h2⟩
  · intro env' he
    obtain ⟨b1, L, o', b2, b3, b4, b5, b6⟩ := R.fs env' he
    exact ⟨b1, L, o', b2, hk L o' (fun hp => (hi L hp).2.2.1 (List.mem_filterMap.mpr ⟨env', he, b2⟩)) b3, b4, b5, b6⟩

theorem Rel.fresh3 (R : Rel G A env ι q s) {a : Addr} (ha : s.heap.get? a = none) : a ∉ own env ∧ a ∉ frs A ∧ G.hB.get? a = none := by
  obtain ⟨_, n2, n3⟩ := R.fresh_ne ha
  refine ⟨n2, fun hf => ?_, n3⟩
  obtain ⟨o, e, _⟩ := frames_mut R.fs hf
  rw [ha] at e; cases e

/-- from the loop's beginning on: the iterator's own things do not count -/
theorem Post.off {priv : List Addr} {h' : Heap} {tk : Nat} (R : Rel G A env ι q s) (P : Post G A env ι s ι' q' s') (hp : ∀ b ∈ priv, s.heap.get? b = none ∧ b ∉ ι') (hm : ∀ b ∈ priv, ∃ o, s'.heap.get? b = some o ∧ Mut o)
    (hk : ∀ b o, b ∉ priv → s'.heap.get? b = some o → h'.get? b = some o) : Post G A env ι s ι' q' { s' with heap := h', toks := tk } ∧ Imm s'.heap h' := by
  have off : ∀ b o, s.heap.get? b = some o → b ∉ priv := fun b o e hb => by rw [(hp b hb).1] at e; cases e
  obtain ⟨R', im⟩ := P.rel.off (tk := tk) (fun b hb => let ⟨x, y, z⟩ := R.fresh3 (hp b hb).1; ⟨(hp b hb).2, x, y, z⟩) hm hk
  refine ⟨⟨P.pre, R', ⟨fun a o e => ?_, fun a o e hW => ?_, fun a o e hW hf => ?_⟩, P.new⟩, im⟩
  · obtain ⟨o', e'⟩ := P.kp.size a o e; exact ⟨o', hk a o' (off a o e) e'⟩
  · obtain ⟨sl, e'⟩ := P.kp.up a o e hW; exact ⟨sl, hk a _ (off a o e) e'⟩
  · exact hk a o (off a o e) (P.kp.ex a o e hW hf)

theorem P_for {target : Expr} {body : List Stmt} {bd : V → Cm Unit} {m : Cm Fl} {I : Addr} {priv : List Addr} {ι1 : List Addr} {it : It} {St : Nat → Heap → Prop} {q1 : S} {s1 : Shared} (ha : AOk hq k A env) (R : Rel G A env ι q s)
    (hb : AsgOk G hq k env target bd) (hm : Exs G hq k env body m) (P1 : Post G A env ι s ι1 q1 s1) (hI : Itr G A target I priv ι1 it St) (h0 : St 0 s1.heap) (hp : ∀ b ∈ priv, s.heap.get? b = none ∧ b ∉ ι1) (hg : it.g q1.H)
    {Q : Flow → Shared → Prop} {E : Value → Shared → Prop}
    (hQ : Fin G A env ι s (forV it.g bd m it.xs q1) (FlRel G) Q E) :
    codeAny G.M A (.forLoop target (.ref I) body [] env) (fun r s' => match r with | .ok f => Q f s' | .error e => cameBackBy G.M A env E e s') s1 := by
  refine codeAny_forLoop_any (fun n s' => ∃ i ι' q', i ≤ it.xs.length ∧ n = it.xs.length + 1 - i ∧ ι1 <+: ι' ∧ Post G A env ι s ι' q' s' ∧ St i s'.heap ∧ it.g q'.H ∧ (∀ b ∈ priv, b ∉ ι') ∧
      forV it.g bd m (it.xs.drop i) q' = forV it.g bd m it.xs q1) ?_ (it.xs.length + 1)
    ⟨0, ι1, q1, Nat.zero_le _, rfl, List.prefix_refl _, P1, h0, hg, fun b hb => (hp b hb).2, by rw [List.drop_zero]⟩
  rintro n s' ⟨i, ι', q', hi, rfl, hpre, P, hst, hg', hpi, hr⟩
  have hp' : ∀ b ∈ priv, s.heap.get? b = none ∧ b ∉ ι' := fun b hb => ⟨(hp b hb).1, hpi b hb⟩
  rcases Nat.lt_or_ge i it.xs.length with hlt | hge
  · obtain ⟨x, hx⟩ : ∃ x, it.xs[i]? = some x := ⟨_, List.getElem?_eq_getElem hlt⟩
    have hdrop : it.xs.drop i = x :: it.xs.drop (i + 1) := by
      rw [List.drop_eq_getElem_cons hlt]; congr 1; rw [List.getElem?_eq_getElem hlt] at hx; exact Option.some.inj hx
    rw [hdrop] at hr
    refine wpAny_mono (hI.item i x s' ι' q'.H (fun v s₂ => wpAny G.M A (assign target env v) (fun _ s₂ => wpAny G.M A (execs body env) (fun f s₃ => match f with
            | .next | .cont => ∃ m', m' < it.xs.length + 1 - i ∧ ∃ i ι' q', i ≤ it.xs.length ∧ m' = it.xs.length + 1 - i ∧ ι1 <+: ι' ∧ Post G A env ι s ι' q' s₃ ∧ St i s₃.heap ∧ it.g q'.H ∧ (∀ b ∈ priv, b ∉ ι') ∧
                forV it.g bd m (it.xs.drop i) q' = forV it.g bd m it.xs q1
            | .brk => Q .next s₃
            | .ret v => Q (.ret v) s₃) (notedBy G.M A env (cameBackBy G.M A env E)) s₂) (notedBy G.M A env (cameBackBy G.M A env E)) s₂) (notedBy G.M A env (cameBackBy G.M A env E)) hx hpre hpi P.rel.st hg' hst
      fun v h' tk hk hv hst' => ?_) (fun r s₁ y => ?_) fun _ _ y => y
    · obtain ⟨P2, im⟩ := Post.off (tk := tk) R P hp' (hI.mu _ _ hst) hk
      have hA := hb A ι' q' _ x v ha P2.rel hv
      have hno : ∀ b ∈ priv, b ∉ own env ∧ b ∉ frs A := fun b hb => let ⟨x, y, _⟩ := R.fresh3 (hp b hb).1; ⟨x, y⟩
      have stp : ∀ {ιa ιb : List Addr} {qa qb : S} {sa sb : Shared}, St (i + 1) sa.heap → (∀ b ∈ priv, b ∉ ιa) → Post G A env ιa sa ιb qb sb → St (i + 1) sb.heap ∧ ∀ b ∈ priv, b ∉ ιb := fun {ιa ιb qa qb sa sb} hs hn Pa => by
        refine ⟨hI.frame _ _ _ hs fun b hb o e => Pa.kp.ex b o e (fun hm => (List.mem_append.mp hm).elim (hno b hb).1 (hn b hb)) (hno b hb).2, fun b hb hm => ?_⟩
        rcases Pa.new b hm with h1 | h1
        · exact hn b hb h1
        · obtain ⟨o, e, _⟩ := hI.mu _ _ hs b hb; rw [h1] at e; cases e
      cases hbd : bd x q' with
      | stuck =>
        have : forV it.g bd m it.xs q1 = .stuck := by rw [← hr]; exact bnd_stuck hbd
        rw [this] at hQ; exact hQ.elim
      | exc c q2 =>
        have e : forV it.g bd m it.xs q1 = .exc c q2 := by rw [← hr]; exact bnd_exc hbd
        rw [e] at hQ
        rw [hbd] at hA
        exact hA _ _ fun ι2 ev s2 x => (P2.transX x).passes ha fun s'' y => hQ ι2 ev s'' y
      | ok u q2 =>
        rw [hbd] at hA
        refine hA _ _ fun ι2 u' s2 Pa _ => ?_
        obtain ⟨hsa, hna⟩ := stp (qa := q') hst' hpi Pa
        have hr2 : (m.bnd (turnV it.g (forV it.g bd m (it.xs.drop (i + 1))))) q2 = forV it.g bd m it.xs q1 := by
          rw [← hr]; exact (bnd_ok (f := fun _ => m.bnd (turnV it.g (forV it.g bd m (it.xs.drop (i + 1))))) hbd).symm
        have P3 := P2.trans Pa
        have hB := hm A ι2 q2 s2 ha P3.rel
        cases hmb : m q2 with
        | stuck => rw [bnd_stuck hmb] at hr2; rw [← hr2] at hQ; exact hQ.elim
        | exc c q3 =>
          rw [bnd_exc hmb] at hr2; rw [← hr2] at hQ
          rw [hmb] at hB
          exact hB _ _ fun ι3 ev s3 x => (P3.transX x).passes ha fun s'' y => hQ ι3 ev s'' y
        | ok f q3 =>
          rw [bnd_ok hmb] at hr2
          rw [hmb] at hB
          refine hB _ _ fun ι3 cf s3 Pb hf => ?_
          have P4 := P3.trans Pb
          cases f with
          | ret v =>
            obtain ⟨cv, rfl, hv⟩ := hf
            rw [← hr2] at hQ
            exact hQ ι3 (.ret cv) s3 P4 ⟨cv, rfl, hv⟩
          | next =>
            rw [show cf = .next from hf]
            unfold turnV at hr2
            dsimp only at hr2 ⊢
            obtain ⟨hsb, hnb⟩ := stp (qa := q2) hsa hna Pb
            by_cases hg3 : it.g q3.H
            · rw [if_pos hg3] at hr2
              exact ⟨it.xs.length + 1 - (i + 1), by omega, i + 1, ι3, q3, hlt, rfl, hpre.trans (Pa.pre.trans Pb.pre), P4, hsb, hg3, hnb, hr2⟩
            · rw [if_neg hg3] at hr2; rw [← hr2] at hQ; exact hQ.elim
    · cases r with
      | none => exact y.elim
      | some v => exact y
  · have hi' : i = it.xs.length := by omega
    subst hi'
    rw [List.drop_length] at hr
    refine wpAny_mono (hI.done s' ι' q'.H (fun s₁ => Q .next s₁) _ hpre hpi P.rel.st hg' hst fun h' tk hk => ?_) (fun r s₁ y => ?_) fun _ _ y => y
    · obtain ⟨P2, im⟩ := Post.off (tk := tk) R P hp' (hI.mu _ _ hst) hk
      rw [← hr] at hQ
      exact hQ ι' .next _ P2 rfl
    · cases r with
      | none => exact wpAny_execs_nil y
      | some v => exact y.elim
end
end Mine

set_option Elab.async false
set_option linter.unusedVariables false
namespace Mine
open PySem PySem.W PyProof.Rows

section
variable {G : Cx} {hq : Bool} {k : Nat} {env : Env} {A : Around} {ι ι' : List Addr} {q q' : S} {s s' : Shared} {H H' : Hp} {h : Heap}

theorem X_for {target iter : Expr} {body : List Stmt} {pos : Pos} {mi : Cm It} {bd : V → Cm Unit} {m : Cm Fl} (h1 : EvI G hq k env target iter mi) (hb : AsgOk G hq k env target bd) (hm : Exs G hq k env body m)
    (hs : ∀ x, foldedSetIterable iter env x = pure x) : Ex G hq k env (.For target iter body [] pos) (mi.bnd fun it => forV it.g bd m it.xs) := by
  intro A ι q s ha R
  have hi := h1 A ι q s ha R
  refine Sat.of fun Q E hQ => wpAny_For ?_ hs
  cases hmi : mi q with
  | stuck => rw [bnd_stuck hmi] at hQ; exact hQ.elim
  | exc c q1 => rw [bnd_exc hmi] at hQ; rw [hmi] at hi; exact hi _ _ hQ
  | ok it q1 =>
    rw [bnd_ok hmi] at hQ
    rw [hmi] at hi
    refine hi _ _ fun ι1 cv s1 P1 hr => ?_
    obtain ⟨⟨I, priv, St, rfl, h0, hp, _, hI⟩, hg⟩ := hr
    exact P_for ha R hb hm P1 hI h0 hp (hg q1 rfl) hQ

/-! ### targets -/
theorem A_name {x : String} {p : Pos} (hx : Binds env x) : AsgOk G hq k env (.Name (Str.ofString x) p) (setV x) :=
  fun A ι q s v cv ha R hv => (P_store hx R hv).imp fun Q E y => wpAny_assign_Name y

/-! ### iterables -/
inductive Tgt : Expr → Prop
  | name (x : Str) (p : Pos) : Tgt (.Name x p)
  | pair (es : List Expr) (kk : Nat) (p : Pos) : Tgt (.Tuple es kk p)

theorem letGo_list {target : Expr} (ht : Tgt target) {I l : Addr} {i : Nat} {v : Value} {Q : Unit → Shared → Prop} {E : Value → Shared → Prop} (hit : s.heap.IsListIter I l i) (hQ : Q () s) :
    wpAny G.M A (letOwnedTupleGo target (.ref I) v) Q E s := by
  cases ht with
  | name x p => exact wpAny_pure hQ
  | pair es kk p =>
    cases v with
    | ref T => exact wpAny_letOwnedTupleGo_listiter hit hQ
    | _ => exact wpAny_pure hQ

noncomputable def itOf (sn : List Int) (v : V) : Cm It := fun q => match itemsOf sn v q.H with
  | some xs => .ok ⟨xs, fun H => itemsOf sn v H = some xs⟩ q
  | none => .stuck

theorem listIter_mut {h : Heap} {I l : Addr} {i : Nat} (x : h.IsListIter I l i) : ∃ o, h.get? I = some o ∧ Mut o := let ⟨o, ho, hc, _⟩ := x; ⟨o, ho, .inl ⟨_, hc, by decide⟩⟩
theorem imm_but {h h' : Heap} {I : Addr} (hm : ∃ o, h.get? I = some o ∧ Mut o) (hs : Heap.ExtBut I h h') : Imm h h' := fun a o e hmu => ⟨o.slots, hs a o (fun q => by
  obtain ⟨o', e', m'⟩ := hm; rw [← q, e] at e'; cases e'; exact hmu m') e⟩

theorem itr_list (C : CxOk G) (hh : A.handled = none) {target : Expr} (ht : Tgt target) {I l : Addr} {v : V} {xs : List V} (hv : ∀ ι', ι <+: ι' → ∀ h, VRel G ι' h v (.ref l)) (hs : (∃ j, v = .ref j) ∨ v = .scr) (hI : l ≠ I) :
    Itr G A target I [I] ι ⟨xs, fun H => itemsOf G.sn v H = some xs⟩ (fun i h => h.IsListIter I l i) where
  mu := fun i h st b hb => by simp at hb; subst hb; exact listIter_mut st
  frame := fun i h h' st hk => st.at fun o e => hk I (by simp) o e
  item := fun i x s ι' H Q E hx hpre hpi R hg st hQ => by
    obtain ⟨a, vs, e, g1, g2⟩ := items_at C R (hv ι' hpre s.heap) hg
    cases e
    obtain ⟨cv, c1, c2⟩ := g2.get hx
    refine wpAny_pyNext_list_item st g1 (x := cv) (by simpa using c1) fun h' st' hs => ?_
    exact letGo_list ht st' (hQ cv h' s.toks (fun b o hb e => hs.extBut b o (fun q => hb (by simp [q])) e) (c2.mono (List.prefix_refl _) (imm_but (listIter_mut st) hs.extBut)) st')
  done := fun s ι' H Q E hpre hpi R hg st hQ => by
    obtain ⟨a, vs, e, g1, g2⟩ := items_at C R (hv ι' hpre s.heap) hg
    cases e
    refine wpAny_pyNext_list_end hh st g1 (by simp [g2.length]) fun h' hs => ?_
    exact hQ h' s.toks fun b o hb e => hs b o (fun q => hb (by simp [q])) e
  self := fun i s Q E st hQ => wpAny_pyIter_listiter st hQ

theorem I_list (C : CxOk G) (hh : hq = true) {target iter : Expr} (ht : Tgt target) {m : Cm V} (h1 : Ev G hq k env iter m) : EvI G hq k env target iter (m.bnd fun v => itOf G.sn v) := by
  intro A ι q s ha R
  refine Sat.of fun Q E hQ => ?_
  have h1' := h1 A ι q s ha R
  cases hm : m q with
  | stuck => rw [bnd_stuck hm] at hQ; exact hQ.elim
  | exc c q1 => rw [bnd_exc hm] at hQ; rw [hm] at h1'; exact h1' _ _ hQ
  | ok v q1 =>
    rw [bnd_ok hm] at hQ
    rw [hm] at h1'
    refine h1' _ _ fun ι1 cv s1 P1 hv => ?_
    unfold itOf at hQ
    cases hi : itemsOf G.sn v q1.H with
    | none => rw [hi] at hQ; exact hQ.elim
    | some xs =>
      rw [hi] at hQ
      obtain ⟨l, vs, rfl, g1, g2⟩ := items_at C P1.rel.st hv hi
      refine wpAny_pyIter_list g1 ?_
      have st : s1.heap.StaysIn (s1.heap.push { cls := .type "list_iterator", data := .fields #[.ref l, .int 0 0] }) := fun b o e => Heap.get?_push_of_some _ e
      have nw : s1.heap.get? s1.heap.objs.size = none := Heap.get?_none_of_le (Nat.le_refl _)
      have P2 := P1.trans (Post.stays (tk := s1.toks) P1.rel st)
      have hv2 : ∀ ι', ι1 <+: ι' → ∀ h, VRel G ι' h v (.ref l) := fun ι' hp h => by
        unfold itemsOf at hi
        split at hi
        · obtain ⟨a, e1, e2⟩ := hv; exact ⟨a, getElem?_prefix hp e1, e2⟩
        · exact hv
        · cases hi
      refine hQ ι1 _ _ P2 ⟨⟨s1.heap.objs.size, [s1.heap.objs.size], _, rfl, ⟨_, Heap.get?_push_size _ rfl, rfl, rfl⟩, fun b hb => ?_, fun _ _ => trivial, itr_list C (ha.hd hh) ht hv2 ?_ fun e => ?_⟩, fun q' e => ?_⟩
      · simp at hb; subst hb
        refine ⟨?_, (P1.rel.fresh_ne nw).1⟩
        cases e : s.heap.get? s1.heap.objs.size with
        | none => rfl
        | some o => obtain ⟨o', e'⟩ := P1.kp.size _ _ e; rw [nw] at e'; cases e'
      · unfold itemsOf at hi
        split at hi
        · exact .inl ⟨_, rfl⟩
        · exact .inr rfl
        · cases hi
      · obtain ⟨o, e', _⟩ := g1
        rw [e, nw] at e'; cases e'
      · cases e
        exact hi

/-- by a built-in's call -/
theorem I_blt (C : CxOk G) {target : Expr} {x : String} {bv : Value} {es : List Expr} {p pos : Pos} {m : Cm (List V)} {f : List V → Cm It} (hx : env.kindOf (Str.ofString x) = some .globalImplicit) (hv : nsIn G.K mainGlobals (Str.ofString x) = some none)
    (hb : bootBuiltins (Str.ofString x) = some bv) (hn : Str.ofString x ≠ "__name__") (hd : (Str.ofString x == ("__debug__" : Str)) = false) (hc : CallsBy bv) (h1 : EvL G hq k env es m) (hp : (backTo pos (starEach es env)).any (·.1) = false)
    (hf : ∀ A ι q s vs cvs, AOk hq k A env → Rel G A env ι q s → VRels G ι s.heap vs cvs → Sat G A env ι s (f vs q) (fun ι' h it cv => ItRel G A target s.heap ι' h it cv ∧ ∀ q', f vs q = .ok it q' → it.g q'.H)
      (fun Q E s => wpAny G.M A (call bv cvs) (fun x s₁ => wpAny G.M A (pyIter x) Q E s₁) E s)) :
    EvI G hq k env target (.Call (.Name (Str.ofString x) p) es [] pos) (m.bnd fun vs => f vs) := by
  intro A ι q s ha R
  refine Sat.of fun Q E hQ => ?_
  have h1' := h1 pos A ι q s ha R
  show wpAny G.M A (do callWith pos (← eval (.Name (Str.ofString x) p) env) [] (backTo pos (starEach es env)) []) _ E s
  refine wpAny_bind (blt_load C R hx hv hb hn hd ?_)
  refine hc _ _ _ _ _ _ _ hp (evalArgs_any hp ?_)
  cases hm : m q with
  | stuck => rw [bnd_stuck hm] at hQ; exact hQ.elim
  | exc c q1 => rw [bnd_exc hm] at hQ; rw [hm] at h1'; exact h1' _ _ hQ
  | ok vs q1 =>
    rw [bnd_ok hm] at hQ
    rw [hm] at h1'
    refine h1' _ _ fun ι1 cvs s1 P1 hv => ?_
    have h2 := hf A ι1 q1 s1 vs cvs ha P1.rel hv
    refine Sat.mono P1 h2 ?_
    cases hfv : f vs q1 with
    | stuck => rw [hfv] at hQ; exact hQ
    | exc c q2 => rw [hfv] at hQ; exact hQ
    | ok it q2 =>
      rw [hfv] at hQ
      refine fun ι2 cv s2 P2 r => hQ ι2 cv s2 P2 ⟨?_, fun q' e => ?_⟩
      · obtain ⟨⟨I, priv, St, e1, e2, e3, e4, e5⟩, _⟩ := r
        refine ⟨I, priv, St, e1, e2, fun b hb => ⟨?_, (e3 b hb).2⟩, e4, e5⟩
        cases e : s.heap.get? b with
        | none => rfl
        | some o => obtain ⟨o', e'⟩ := P1.kp.size _ _ e; rw [(e3 b hb).1] at e'; cases e'
      · exact r.2 q' e

noncomputable def rangeL (a : Int) : Nat → List V
  | 0 => []
  | n + 1 => .int a :: rangeL (a + 1) n
theorem rangeL_length : ∀ (n : Nat) (a : Int), (rangeL a n).length = n
  | 0, _ => rfl
  | n + 1, a => by rw [rangeL, List.length_cons, rangeL_length n]
theorem rangeL_get : ∀ (n : Nat) (a : Int) (i : Nat) (x : V), (rangeL a n)[i]? = some x → x = .int (a + i) ∧ i < n
  | 0, a, i, x, e => by simp [rangeL] at e
  | n + 1, a, 0, x, e => by simp [rangeL] at e; exact ⟨by rw [← e]; simp, by omega⟩
  | n + 1, a, i + 1, x, e => by
    simp [rangeL] at e
    obtain ⟨h1, h2⟩ := rangeL_get n (a + 1) i x e
    exact ⟨by rw [h1]; congr 1; push_cast; omega, by omega⟩
noncomputable def rangeV : List V → Cm It
  | [.int b] => if -1000000 < b ∧ b < 1000000 then .pur ⟨rangeL 0 b.toNat, fun _ => True⟩ else .stk
  | [.int a, .int b] => if (-1000000 < a ∧ a < 1000000) ∧ -1000000 < b ∧ b < 1000000 then .pur ⟨rangeL a (b - a).toNat, fun _ => True⟩ else .stk
  | _ => .stk

theorem itr_range (hh : A.handled = none) {x : Str} {p : Pos} {I : Addr} (a : Int) (n : Nat) :
    Itr G A (.Name x p) I [I] ι ⟨rangeL a n, fun _ => True⟩ (fun i h => IsRangeIter h I (a + (i : Nat)) ((n : Int) - (i : Nat)) 1) where
  mu := fun i h st b hb => by simp at hb; subst hb; exact ⟨_, st, .inl ⟨_, rfl, by decide⟩⟩
  frame := fun i h h' st hk => hk I (by simp) _ st
  item := fun i x s ι' H Q E hx hpre hpi R hg st hQ => by
    obtain ⟨rfl, hlt⟩ := rangeL_get _ _ _ _ hx
    refine wpAny_pyNext_range_item st (by omega) fun h' st' hs => ?_
    refine wpAny_pure (hQ _ h' _ (fun b o hb e => hs.extBut b o (fun q => hb (by simp [q])) e) (vInt _ _) ?_)
    rw [show a + ((i + 1 : Nat) : Int) = a + (i : Int) + 1 by push_cast; omega, show (n : Int) - ((i + 1 : Nat) : Int) = (n : Int) - (i : Int) - 1 by push_cast; omega]
    exact st'
  done := fun s ι' H Q E hpre hpi R hg st hQ => by
    refine wpAny_pyNext_range_end hh st (by dsimp only; rw [rangeL_length]; omega) fun h' hs => ?_
    exact hQ h' s.toks fun b o hb e => hs b o (fun q => hb (by simp [q])) e
  self := fun i s Q E st hQ => wpAny_pyIter_rangeiter st hQ

theorem P_rangeIter (hh : A.handled = none) {x : Str} {p : Pos} {a b : Int} {t u v : Tok} {tk : Nat} (R : Rel G A env ι q s) (ha : -1000000 < a ∧ a < 1000000) (hb : -1000000 < b ∧ b < 1000000) {Q : Value → Shared → Prop} {E : Value → Shared → Prop}
    (hQ : ∀ ι'' cv s'', Post G A env ι s ι'' q s'' → (ItRel G A (.Name x p) s.heap ι'' s''.heap ⟨rangeL a (b - a).toNat, fun _ => True⟩ cv) → Q cv s'') :
    wpAny G.M A (pyIter (.ref s.heap.objs.size)) Q E { s with heap := s.heap.push { cls := .type "range", data := .fields #[.int a t, .int b u, .int 1 v] }, toks := tk } := by
  have hsz : Builtin.Range.rangeSize a b 1 = (((b - a).toNat : Nat) : Int) := by
    unfold Builtin.Range.rangeSize
    simp
    split <;> omega
  refine wpAny_pyIter_range (Heap.get?_push_size _ rfl) ?_ ?_
  · unfold Builtin.Range.small
    have ft : ∀ z : Int, -1000000 < z → z < 2000000 → Builtin.Range.rangeFitsLong z = true := fun z h1 h2 => by unfold Builtin.Range.rangeFitsLong; simp; omega
    simp [hsz, ft a ha.1 (by omega), ft b hb.1 (by omega), ft 1 (by omega) (by omega), ft (max (b - a) 0) (by omega) (by omega)]
  · rw [hsz]
    have st : s.heap.StaysIn ((s.heap.push { cls := .type "range", data := .fields #[.int a t, .int b u, .int 1 v] }).push { cls := .type "range_iterator", data := .fields #[rawInt a, rawInt (((b - a).toNat : Nat) : Int), rawInt 1] }) :=
      fun c o e => Heap.get?_push_of_some _ (Heap.get?_push_of_some _ e)
    refine hQ ι _ _ (Post.stays R st) ⟨_, [_], _, rfl, ?_, fun c hc => ?_, fun _ _ => trivial, itr_range hh a (b - a).toNat⟩
    · have := Heap.get?_push_size (s.heap.push { cls := .type "range", data := .fields #[.int a t, .int b u, .int 1 v] }) (o := { cls := .type "range_iterator", data := .fields #[rawInt a, rawInt (((b - a).toNat : Nat) : Int), rawInt 1] }) rfl
      simpa using this
    · simp at hc; subst hc
      have nw : s.heap.get? (s.heap.push { cls := .type "range", data := .fields #[.int a t, .int b u, .int 1 v] }).objs.size = none := Heap.get?_none_of_le (by rw [Heap.size_push]; omega)
      rw [Heap.size_push] at nw
      exact ⟨nw, (R.fresh_ne nw).1⟩

theorem P_range (hh : A.handled = none) {x : Str} {p : Pos} (R : Rel G A env ι q s) {vs : List V} {cvs : List Value} (hv : VRels G ι s.heap vs cvs) :
    Sat G A env ι s (rangeV vs q) (fun ι' h it cv => ItRel G A (.Name x p) s.heap ι' h it cv ∧ ∀ q', rangeV vs q = .ok it q' → it.g q'.H)
      (fun Q E s => wpAny G.M A (call (.type "range") cvs) (fun x s₁ => wpAny G.M A (pyIter x) Q E s₁) E s) := by
  unfold rangeV
  split
  · rename_i b
    obtain ⟨cv, _, rfl, ⟨t, rfl⟩, e⟩ := hv; rw [show _ = [] from e]
    split
    · rename_i hb
      intro Q E hQ
      refine call_range_1 (P_rangeIter (b := b) hh R (by omega) hb fun ι2 cv s2 P r => hQ ι2 cv s2 P ⟨by simpa using r, fun q' e => ?_⟩)
      cases e; trivial
    · trivial
  · rename_i a b
    obtain ⟨cv, _, rfl, ⟨t, rfl⟩, cv2, _, rfl, ⟨t2, rfl⟩, e⟩ := hv; rw [show _ = [] from e]
    split
    · rename_i hb
      intro Q E hQ
      refine call_range_2 (P_rangeIter (b := b) hh R hb.1 hb.2 fun ι2 cv s2 P r => hQ ι2 cv s2 P ⟨r, fun q' e => ?_⟩)
      cases e; trivial
    · trivial
  · trivial

theorem I_range (C : CxOk G) (hh : hq = true) {x : Str} {px p pos : Pos} {es : List Expr} {m : Cm (List V)} (hx : env.kindOf (Str.ofString "range") = some .globalImplicit) (hv : nsIn G.K mainGlobals (Str.ofString "range") = some none)
    (h1 : EvL G hq k env es m) (hp : (backTo pos (starEach es env)).any (·.1) = false) : EvI G hq k env (.Name x px) (.Call (.Name (Str.ofString "range") p) es [] pos) (m.bnd fun vs => rangeV vs) :=
  I_blt C hx hv (bv := .type "range") (by decide +kernel) (by decide) (by decide) (callsBy_type _) h1 hp fun A ι q s vs cvs ha R hv => P_range (ha.hd hh) R hv
end
end Mine

set_option Elab.async false
set_option linter.unusedVariables false
namespace Mine
open PySem PySem.W PyProof.Rows

/-! ### raise -/
noncomputable def nsPlain (K : Frag) (N : Addr) : Bool := match K.lookup N with
  | some ⟨_, _, .dict es _, _⟩ => es.toList.all (fun e => match e.key with | .str _ _ => true | _ => false) && (nsFind es "__init__").isNone
  | _ => false
noncomputable def bmVE : List Value := [.type "ValueError", .type "Exception", .type "BaseException", .type "object"]
noncomputable def xTail (K : Frag) : List Value → Bool
  | .ref a :: tl => (match K.lookup a with | some ⟨_, _, .cls cd, _⟩ => nsPlain K cd.ns && xTail K tl | _ => false)
  | l => decide (l = bmVE)
/-- an own exception class, by the text's classes from ValueError -/
noncomputable def xclOk (K : Frag) (C : Addr) : Bool := match K.lookup C with
  | some ⟨.type "type", _, .cls cd, sl⟩ => (match cd.mro with
      | .ref C' :: bm => decide (C' = C) && xTail K bm
      | _ => false) && !cd.hasDel && decide (sl.size = 6) && decide (sl[4]? = some (some (.builtin "ValueError.__new__"))) && nsPlain K cd.ns
  | _ => false

theorem nsPlain_ns {K : Frag} {N : Addr} {h : Heap} (X : K.In h) (x : nsPlain K N = true) : ∃ m, h.Ns N m ∧ m "__init__" = none := by
  unfold nsPlain at x
  split at x
  · rename_i c d es n sl hl
    rw [Bool.and_eq_true, List.all_eq_true] at x
    refine ⟨nsFind es, ⟨_, es, n, X _ _ hl, rfl, fun e he => ?_, fun _ => rfl⟩, Option.isNone_iff_eq_none.mp x.2⟩
    have := x.1 e (Array.mem_toList_iff.mpr he)
    cases hk : e.key <;> simp [hk] at this
    exact ⟨_, _, rfl⟩
  · cases x
theorem xTail_own {K : Frag} {h : Heap} (X : K.In h) : ∀ {l : List Value}, xTail K l = true → OwnTail h bmVE l
  | [], x => by simp [xTail, bmVE] at x
  | v :: tl, x => by
    cases v with
    | ref a =>
      simp only [xTail] at x
      split at x
      · rename_i c d cd sl hl
        rw [Bool.and_eq_true] at x
        obtain ⟨m, hn, hi⟩ := nsPlain_ns X x.1
        exact .own (X _ _ hl) hn hi (xTail_own X x.2)
      · cases x
    | _ => simp only [xTail, decide_eq_true_eq] at x; rw [x]; exact .base

theorem xcl_of {K : Frag} {C : Addr} {h : Heap} (X : K.In h) (x : xclOk K C = true) :
    ∃ nm q N bs bm hdct sn sub ab col dd k0 k1 k2 k3 k5 mN, h.get? C = some (excClassObj nm q C N bs bm hdct sn sub ab col dd k0 k1 k2 k3 k5 "ValueError.__new__") ∧
      K.lookup C = some (excClassObj nm q C N bs bm hdct sn sub ab col dd k0 k1 k2 k3 k5 "ValueError.__new__") ∧ h.Ns N mN ∧ mN "__init__" = none ∧ OwnTail h bmVE bm := by
  unfold xclOk at x
  split at x
  · rename_i oc dd cd sl hl
    obtain ⟨nm, bs, mro, N, q, hdct, sn, sub, ab, col, hdel⟩ := cd
    simp only [Bool.and_eq_true, decide_eq_true_eq, Bool.not_eq_true'] at x
    obtain ⟨⟨⟨⟨hm, hdl⟩, hsz⟩, hmk⟩, hns⟩ := x
    split at hm
    · rename_i C' bm
      simp only [Bool.and_eq_true, decide_eq_true_eq] at hm
      obtain ⟨rfl, ht⟩ := hm
      obtain ⟨l⟩ := sl
      obtain ⟨k0, k1, k2, k3, k5, rfl⟩ := six_places (l := l) (by simpa using hsz) (by simpa using hmk)
      obtain rfl : hdel = false := hdl
      obtain ⟨m, hn, hi⟩ := nsPlain_ns X hns
      exact ⟨nm, q, N, bs, bm, hdct, sn, sub, ab, col, dd, k0, k1, k2, k3, k5, m, X _ _ hl, hl, hn, hi, xTail_own X ht⟩
    · cases hm
  · cases x

section
variable {G : Cx} {hq : Bool} {k : Nat} {env : Env} {A : Around} {ι ι' : List Addr} {q q' : S} {s s' : Shared} {H H' : Hp} {h : Heap}

theorem XPost.made {c : String} {C e : Addr} {args : List Value} {h' : Heap} {tk : Nat} (ha : AOk hq k A env) (R : Rel G A env ι q s) (hc : G.xcl c = some C) (hm : Heap.MadeExcOf s.heap h' e (.ref C) args) :
    XPost G A env ι s c ι q { s with heap := h', toks := tk } (.ref e) := by
  have fsn : ∀ env' ∈ A.frames.getD [], ∀ L, env'.frame = some L → L ∈ frs A := fun env' he L hf => List.mem_filterMap.mpr ⟨env', he, hf⟩
  have frm : ∀ a ∈ frs A, ∃ o, s.heap.get? a = some o ∧ (∃ es n, o.data = .dict es n) ∧ a ∉ ι ∧ G.hB.get? a = none := fun a hf => by
    obtain ⟨e', he, hf'⟩ := List.mem_filterMap.mp hf
    obtain ⟨_, L, o, h1, h2, h3, h4, h5⟩ := R.fs e' he
    obtain rfl : L = a := Option.some.inj (h1.symm.trans hf')
    exact ⟨o, h2, h3, h4, h5⟩
  have get : ∀ a o, s.heap.get? a = some o → a ∉ frs A → (hideAll s.heap (frs A)).get? a = some o := fun a o e n => hideAll_get _ e n
  have im : Imm s.heap (hideAll s.heap (frs A)) := fun a o e hmu => ⟨o.slots, get a o e fun hf => by
    obtain ⟨o', e', ⟨es, n, d⟩, _⟩ := frm a hf
    rw [e] at e'; cases e'; exact hmu (.inr (.inl ⟨es, n, d⟩))⟩
  have bs : (hideAll s.heap (frs A)).StaysIn h' := fun b o e => hm.keeps b o (of_hideAll _ e)
  have st : StOk G ι q.H (hideAll s.heap (frs A)) := ⟨fun b o e => get b o (R.st.keep b o e) (fun hf => by obtain ⟨_, _, _, _, n⟩ := frm b hf; rw [n] at e; cases e), R.st.len, R.st.nodup, R.st.fresh,
    fun i a o e1 e2 => (R.st.obj i a o e1 e2).at (List.prefix_refl _) im fun o' e' => get a o' e' fun hf => by obtain ⟨_, _, _, n, _⟩ := frm a hf; exact n (List.mem_of_getElem? e1)⟩
  obtain ⟨fenv, rest, f1, f2, _⟩ := ha.fr
  have hfm : fenv ∈ A.frames.getD [] := by rw [f1]; exact .head _
  obtain ⟨_, L, oL, g1, _⟩ := R.fs fenv hfm
  obtain ⟨t, ht, htn, ht'⟩ := hm.there
  have cellEx : ∀ c o v, s.heap.get? c = some o → o.data = .cell v → (hideAll s.heap (frs A)).get? c = some o := fun c o v e hd => get c o e fun hf => by
    obtain ⟨o', e', ⟨es, n, d⟩, _⟩ := frm c hf
    rw [e] at e'; cases e'; rw [hd] at d; cases d
  refine ⟨List.prefix_refl _, ⟨e, C, hideAll s.heap (frs A), L, rfl, hc, f2.symm.trans g1, ⟨bs, ?_, ?_, _, _, .ref t, ht, rfl, rfl, rfl, .inl rfl⟩, st, ?_, R.fs.stays hm.keeps, fun a o e hW hf => get a o e hf⟩,
    Dom.of_stays hm.keeps, fun a o e _ => ⟨o.slots, hm.keeps a o e⟩, fun _ h => .inl h, R.gens, R.os⟩
  · cases q : (hideAll s.heap (frs A)).get? e with
    | none => rfl
    | some o => have := of_hideAll _ q; rw [hm.new] at this; cases this
  · have : ∀ fs : List Env, (∀ e ∈ fs, e ∈ A.frames.getD []) → h'.FunFrames (hideAll s.heap (frs A)) fs := fun fs => by
      induction fs with
      | nil => intro _; trivial
      | cons f r ih =>
        intro hmem
        obtain ⟨n1, L', o', n2, n3, ⟨es, n, n4⟩, _⟩ := R.fs f (hmem f (.head _))
        exact ⟨n1, ⟨L', o', n2, hideAll_none _ (fsn f (hmem f (.head _)) L' n2), hm.keeps _ _ n3, fun vs q => by rw [n4] at q; cases q⟩, ih fun e he => hmem e (.tail _ he)⟩
    exact this _ fun e he => he
  · refine ⟨R.fr.kind, R.fr.glob, R.fr.blt, ?_, ?_, ?_, R.fr.ndup, R.fr.dis, R.fr.fresh⟩
    · obtain ⟨m, hn, hmm⟩ := R.fr.loc
      exact ⟨m, hn.keeps hm.keeps, fun y v e e2 => let ⟨cv, a, b⟩ := hmm y v e e2; ⟨cv, a, b.mono (List.prefix_refl _) im⟩⟩
    · intro y v e e2
      obtain ⟨c, o, cv, h1, h2, h3, h4⟩ := R.fr.cel y v e e2
      exact ⟨c, o, cv, h1, cellEx c o _ h2 h3, h3, h4.mono (List.prefix_refl _) im⟩
    · intro p hp
      obtain ⟨o, ov, h1, h2⟩ := R.fr.cells p hp
      exact ⟨o, ov, cellEx p.2 o _ h1 h2, h2⟩

noncomputable def raiseV {α : Type} (c : String) : Cm α := fun q => .exc c q

theorem X_raise (C : CxOk G) (hh : hq = true) {x : String} {a : Addr} {es : List Expr} {np cpos pos : Pos} {m : Cm (List V)} (hx : env.kindOf (Str.ofString x) = some .globalImplicit)
    (hv : nsIn G.K mainGlobals (Str.ofString x) = some (some (.ref a))) (hc : G.xcl x = some a) (ho : xclOk G.K a = true) (hd : (Str.ofString x == ("__debug__" : Str)) = false) (h1 : EvL G hq k env es m) (hl : es.length ≤ 5)
    (hp : (backTo cpos (starEach es env)).any (·.1) = false) (hlen : ∀ q vs q', m q = .ok vs q' → vs.length ≤ 1000) :
    Ex G hq k env (.Raise (some (.Call (.Name (Str.ofString x) np) es [] cpos)) none pos) (m.bnd fun _ => raiseV x) := by
  intro A ι q s ha R
  refine Sat.of fun Q E hQ => ?_
  obtain ⟨nm, qn, N, bs, bm, hdct, sn, sub, ab, col, dd, k0, k1, k2, k3, k5, mN, hC, _, hN, hni, T⟩ := xcl_of C.X ho
  refine wpAny_Raise_call_subT (C := a) (nm := nm) (q := qn) (N := N) (bs := bs) (bm := bm) (hdct := hdct) (sn := sn) (sub := sub) (ab := ab) (col := col) (dd := dd) (k0 := k0) (k1 := k1) (k2 := k2) (k3 := k3) (k5 := k5) (mN := mN)
    F.excBase_ValueError (T.hasType (by decide)) (ha.hd hh) hp hni (glob_load C R hx hv hd ⟨rfl, evalArgs_any hp ?_⟩)
  have h1' := h1 cpos A ι q s ha R
  cases hm : m q with
  | stuck => rw [bnd_stuck hm] at hQ; exact hQ.elim
  | exc c q1 => rw [bnd_exc hm] at hQ; rw [hm] at h1'; exact h1' _ _ hQ
  | ok vs q1 =>
    rw [bnd_ok hm] at hQ
    rw [hm] at h1'
    refine h1' _ _ fun ι1 cvs s1 P1 hv1 => ⟨rfl, by have := hlen q vs q1 hm; rw [hv1.length, sizeLine_eq]; omega, P1.rel.st.keep _ _ hC, hN.keeps P1.rel.st.keep, T.keeps P1.rel.st.keep, fun h' e hme => ?_⟩
    exact hQ ι1 (.ref e) _ (P1.transX (XPost.made (tk := s1.toks) ha P1.rel hc hme))
end
end Mine

set_option Elab.async false
set_option linter.unusedVariables false
namespace Mine
open PySem PySem.W PyProof.Rows

section
variable {G : Cx} {hq : Bool} {k : Nat} {env : Env} {A : Around} {ι ι' : List Addr} {q q' : S} {s s' : Shared} {H H' : Hp} {h : Heap}

/-! ### try -/
theorem Rel.mark {e : Option Value} (R : Rel G A env ι q s) : Rel G (A.mark e) env ι q s := ⟨R.st, R.fr, R.fs, R.gens, R.os⟩
theorem Rel.unmark {e : Option Value} (R : Rel G (A.mark e) env ι q s) : Rel G A env ι q s := ⟨R.st, R.fr, R.fs, R.gens, R.os⟩
theorem Post.unmark {e : Option Value} (P : Post G (A.mark e) env ι s ι' q' s') : Post G A env ι s ι' q' s' := ⟨P.pre, P.rel.unmark, P.kp, P.new⟩
noncomputable def Landed (e C : Addr) (h : Heap) : Prop := ∃ oe vs T oT ts, h.get? e = some oe ∧ oe.cls = .ref C ∧ oe.data = .fields vs ∧ vs[1]? = some (.ref T) ∧ h.get? T = some oT ∧ oT.data = .fields ts ∧ ts[3]? = some .none

theorem XPost.caught {c : String} {ev : Value} {Q : Unit → Shared → Prop} {E : Value → Shared → Prop} (ha : AOk hq k A env) (x : XPost G A env ι s c ι' q' s' ev)
    (hQ : ∀ e C s₃, ev = .ref e → G.xcl c = some C → Landed e C s₃.heap → Post G A env ι s ι' q' s₃ → Q () s₃) :
    wpAny G.M A (noteFrame ev env) (fun _ s₂ => wpAny G.M A (setFlight ev none) Q E s₂) E s' := by
  refine x.noted ha fun e s₂ he hh y => ?_
  subst he
  obtain ⟨e1, C, B, L, g1, g2, g3, fl, g5, g6, g7, g8⟩ := y.ex
  cases g1
  obtain ⟨b1, b2, b3, oe, vs, a0, c1, c2, c3, c4, c5⟩ := id fl
  obtain ⟨L', oe', vs', T', oT', ts', h0, h1, h2, h3, h4, h5, h6⟩ := hh
  rw [c1] at h1; cases h1
  rw [c3] at h2; cases h2
  rw [g3] at h0; cases h0
  rcases c5 with c5 | ⟨T, oT, ts, fl', d1, d2, d3, d4, d5, d6, d7⟩
  · rw [c5] at h3; cases h3
  · rw [d1] at h3; cases h3
    rw [d4] at h4; cases h4
    rw [d5] at h5; cases h5
    rw [d6] at h6; cases h6
    have held : Heap.HeldW B (A.frames.getD []) e (.ref C) a0 L s₂.heap := ⟨b1, b2, b3, _, _, _, _, _, c1, ⟨c2, c4⟩, c3, d1, d2, d3, d4, d5, d6⟩
    refine wpAny_landsW held fun h₃ hf up => ?_
    obtain ⟨k1, k2, k3, oe3, vs3, T3, oT3, ts3, e1, ⟨e2, e2'⟩, e3, e4, e5, e6, e7, e8, e9⟩ := hf
    have z := y.at rfl g2 g3 ⟨k1, k2, k3, oe3, vs3, a0, e1, e2, e3, e2', .inr ⟨T3, oT3, ts3, .none, e4, e5, e6, e7, e8, e9, .inl rfl⟩⟩ g5 g6 g7 g8 up
    refine hQ e C _ rfl g2 ⟨oe3, vs3, T3, oT3, ts3, e1, e2, e3, e4, e7, e8, e9⟩ ⟨z.pre, ⟨g5.stays k1, (g6.slots up).stays k1 fun _ _ e => e, g7.slots up, z.gens, z.os⟩, ⟨z.size, z.up, fun a o e hW hf => k1 _ _ (g8 a o e hW hf)⟩, z.new⟩

theorem landed_again {e C : Addr} {Q : Unit → Shared → Prop} {E : Value → Shared → Prop} (hl : Landed e C s.heap) (hQ : Q () s) : wpAny G.M A (setFlight (.ref e) none) Q E s := by
  obtain ⟨oe, vs, T, oT, ts, h1, h2, h3, h4, h5, h6, h7⟩ := hl
  unfold setFlight
  refine wpAny_bind (wpAny_field h1 h3 h4 ?_)
  rw [if_pos (show (Value.ref T != Value.none) = true from by simp)]
  refine wpAny_setField h5 h6 (Array.getElem?_eq_some_iff.mp h7).1 ?_
  show Q () { s with heap := s.heap.update T (Obj.mapFields (·.setIfInBounds 3 .none)) }
  rw [Heap.update_setField_same s.heap T oT ts 3 .none h5 h6 h7]
  exact hQ

noncomputable def HdOk (G : Cx) (k : Nat) (env : Env) (hs : List ExceptHandler) (c : String) (m : Cm Fl) : Prop :=
  ∀ A ι q s e C, AOk false k A env → Rel G A env ι q s → G.xcl c = some C → Landed e C s.heap →
    match m q with
    | .ok f q' => ∀ Q E, (∀ ι' b s', Post G A env ι s ι' q' s' → FlRel G ι' s'.heap f b → Q b s') → wpAny G.M A (handleBy (.ref e) env hs) Q E s
    | _ => True

theorem hd_stk {hs : List ExceptHandler} {c : String} : HdOk G k env hs c .stk := fun A ι q s e C _ _ _ _ => trivial

noncomputable def tryV (m : Cm Fl) (sel : String → Cm Fl) : Cm Fl := fun q => match m q with
  | .ok f q' => .ok f q'
  | .exc c q' => (match sel c q' with | .ok f q'' => .ok f q'' | _ => .stuck)
  | .stuck => .stuck

theorem AOk.any (ha : AOk hq k A env) : AOk false k A env := ⟨⟨(fun h => by cases h), ha.depth, ha.units⟩, ha.fr⟩

theorem X_try {body : List Stmt} {h0 : ExceptHandler} {hs : List ExceptHandler} {pos : Pos} {m : Cm Fl} {sel : String → Cm Fl} (h1 : Exs G hq k env body m) (h2 : ∀ c, HdOk G k env (h0 :: hs) c (sel c)) :
    Ex G hq k env (.Try body (h0 :: hs) [] [] pos) (tryV m sel) := by
  intro A ι q s ha R
  refine Sat.of fun Q E hQ => wpAny_Try_except ?_
  have h1' := h1 A ι q s ha R
  unfold tryV at hQ
  cases hm : m q with
  | stuck => rw [hm] at hQ; exact hQ.elim
  | ok f q1 =>
    rw [hm] at hQ h1'
    refine h1' _ _ fun ι1 cf s1 P1 hf => ?_
    have := hQ ι1 cf s1 P1 hf
    cases f with
    | next => rw [show cf = .next from hf] at this ⊢; exact wpAny_execs_nil this
    | ret v => obtain ⟨cv, rfl, _⟩ := hf; exact this
  | exc c q1 =>
    rw [hm] at hQ h1'
    dsimp only at hQ
    refine h1' _ _ fun ι1 ev s1 x => ?_
    refine x.caught ha fun e C s3 he hc hl P => ?_
    subst he
    have h2' := h2 c A ι1 q1 s3 e C ha.any P.rel hc hl
    cases hs : sel c q1 with
    | stuck => rw [hs] at hQ; exact hQ.elim
    | exc c q2 => rw [hs] at hQ; exact hQ.elim
    | ok f q2 =>
      rw [hs] at hQ h2'
      exact h2' Q E fun ι2 b s4 P4 hf => hQ ι2 b s4 (P.trans P4) hf

theorem mark_aok {e : Value} (ha : AOk false k A env) : AOk false k (A.mark (some e)) env := ⟨⟨(fun h => by cases h), ha.depth, ha.units⟩, ha.fr⟩

theorem landed_match (C : CxOk G) {e a b : Addr} {r : Bool} (R : Rel G A env ι q s) (hl : Landed e a s.heap) (hx : exmOne G.K (.ref a) (.ref b) = some r) {Q : Bool → Shared → Prop} {E : Value → Shared → Prop} (hQ : Q r s) :
    wpAny G.M A (excMatches (.ref e) (.ref b)) Q E s := by
  obtain ⟨oe, vs, T, oT, ts, h1, h2, _⟩ := hl
  have X := C.X.keeps R.st.keep
  refine exm_one (M := G.M) (h := s.heap) X ?_ hx A Q E s (fun _ _ e => e) hQ
  rw [← h2]
  exact (Looks.ld h1).andThen .now

theorem H_hit (C : CxOk G) {x c : String} {np pos : Pos} {a b : Addr} {b₀ : Stmt} {suite : List Stmt} {rest : List ExceptHandler} {m : Cm Fl} (hx : env.kindOf (Str.ofString x) = some .globalImplicit)
    (hv : nsIn G.K mainGlobals (Str.ofString x) = some (some (.ref b))) (hd : (Str.ofString x == ("__debug__" : Str)) = false) (hc : G.xcl c = some a) (hm : exmOne G.K (.ref a) (.ref b) = some true) (h1 : Exs G false k env (b₀ :: suite) m) :
    HdOk G k env (.ExceptHandler (some (.Name (Str.ofString x) np)) none (b₀ :: suite) pos :: rest) c m := by
  intro A ι q s e a' ha R hc' hl
  obtain rfl : a = a' := Option.some.inj (hc.symm.trans hc')
  have R' : Rel G (A.mark (some (.ref e))) env ι q s := R.mark
  have h1' := h1 (A.mark (some (.ref e))) ι q s (mark_aok ha) R'
  cases hmq : m q with
  | stuck => trivial
  | exc c q1 => trivial
  | ok f q1 =>
    rw [hmq] at h1'
    intro Q E hQ
    refine wpAny_handleBy_cons (codeAny_handlers_test (glob_load C R' hx hv hd (landed_match C R' hl hm ?_))) (by intro q; cases q)
    refine codeAny_handlers_suite (landed_again hl ?_)
    exact h1' _ _ fun ι' b s' P hf => hQ ι' b s' P.unmark hf

noncomputable def asV (x : String) (c : String) (m : Cm Fl) : Cm Fl := (setV x (.exc c)).bnd fun _ => m.bnd fun f => fun q => .ok f ⟨fun _ => none, q.H⟩

theorem H_hit_as (C : CxOk G) {x y c : String} {np pos : Pos} {a b : Addr} {b₀ : Stmt} {suite : List Stmt} {rest : List ExceptHandler} {m : Cm Fl} (hx : env.kindOf (Str.ofString x) = some .globalImplicit)
    (hv : nsIn G.K mainGlobals (Str.ofString x) = some (some (.ref b))) (hd : (Str.ofString x == ("__debug__" : Str)) = false) (hc : G.xcl c = some a) (hm : exmOne G.K (.ref a) (.ref b) = some true)
    (hy : env.kindOf (Str.ofString y) = some .local) (h1 : Exs G false k env (b₀ :: suite) m) :
    HdOk G k env (.ExceptHandler (some (.Name (Str.ofString x) np)) (some (Str.ofString y)) (b₀ :: suite) pos :: rest) c (asV y c m) := by
  intro A ι q s e a' ha R hc' hl
  obtain rfl : a = a' := Option.some.inj (hc.symm.trans hc')
  have R' : Rel G (A.mark (some (.ref e))) env ι q s := R.mark
  have hve : VRel G ι s.heap (.exc c) (.ref e) := by
    obtain ⟨oe, vs, T, oT, ts, h1, h2, h3, _⟩ := hl
    exact ⟨e, a, oe, hc, rfl, h1, h2, vs, h3⟩
  have hst := P_store (A := A.mark (some (.ref e))) (.inl hy) R' hve
  cases hmq : asV y c m q with
  | stuck => trivial
  | exc c q1 => trivial
  | ok f q1 =>
    intro Q E hQ
    refine wpAny_handleBy_cons (codeAny_handlers_test (glob_load C R' hx hv hd (landed_match C R' hl hm ?_))) (by intro q; cases q)
    refine codeAny_handlers_suite_as (landed_again hl (hst _ _ fun ι2 u s2 P2 _ => ?_))
    have h1' := h1 (A.mark (some (.ref e))) ι2 _ s2 (mark_aok ha) P2.rel
    unfold asV at hmq
    rw [bnd_ok (m := setV y (.exc c)) (q' := ⟨upd q.l y (.exc c), q.H⟩) (a := ()) rfl] at hmq
    cases hm2 : m ⟨upd q.l y (.exc c), q.H⟩ with
    | stuck => rw [bnd_stuck hm2] at hmq; cases hmq
    | exc c q2 => rw [bnd_exc hm2] at hmq; cases hmq
    | ok f2 q2 =>
      rw [bnd_ok hm2] at hmq
      cases hmq
      rw [hm2] at h1'
      refine h1' _ _ fun ι3 b s3 P3 hf => ?_
      obtain ⟨m3, hn3, _⟩ := P3.rel.fr.loc
      have hp : (env.scope.kind == .class || (env.scope.kind == .module && env.locals != env.globals)) = false := by rw [R.fr.kind]; rfl
      refine wpAny_nameGoes hy hn3 hp fun h' m' hn' hs' => ?_
      have P23 : Post G A env ι s ι3 q2 s3 := (P2.trans P3).unmark
      have P3' := Post.ownChange (A := A) (tk := s3.toks + 1) (l' := fun _ => none) P23.rel (.head _) hs' (fun o _ es n _ => by
        obtain ⟨o', es', ep', h1, h2, _⟩ := hn'; exact ⟨o', h1, es', ep', h2⟩) fun im => ?_
      · refine hQ ι3 b _ (P23.trans P3') ?_
        cases f with
        | next => exact hf
        | ret v => obtain ⟨cv, rfl, hv⟩ := hf; exact ⟨cv, rfl, hv.mono (List.prefix_refl _) (P23.rel.imm P3'.kp)⟩
      · refine ⟨R.fr.kind, R.fr.glob, R.fr.blt, ⟨m', hn', (fun y w e1 e2 => by cases e1)⟩, (fun y w e1 e2 => by cases e1), fun p hp => ?_, R.fr.ndup, P23.rel.fr.dis, R.fr.fresh⟩
        obtain ⟨o, ov, a, b⟩ := P23.rel.fr.cells p hp
        refine ⟨o, ov, hs'.extBut p.2 o (fun q => ?_) a, b⟩
        obtain ⟨oL, es, ep, hL, hd, _⟩ := hn3
        rw [q, hL] at a; cases a; rw [hd] at b; cases b
end
end Mine

set_option Elab.async false
set_option linter.unusedVariables false
namespace Mine
open PySem PySem.W PyProof.Rows

noncomputable def initL : List String → List V → Loc
  | p :: ps, v :: vs => upd (initL ps vs) p v
  | _, _ => fun _ => none

noncomputable def fnV (ps : List String) (m : Cm Fl) : Fc := fun vs H => if vs.length = ps.length then (match m ⟨initL ps vs, H⟩ with
  | .ok (.ret v) q => .ok v q.H
  | .ok .next q => .ok .none q.H
  | .exc c q => .exc c q.H
  | .stuck => .stuck) else .stuck

section
variable {G : Cx} {hq : Bool} {k : Nat} {env : Env} {A : Around} {ι ι' : List Addr} {q q' : S} {s s' : Shared} {H H' : Hp} {h : Heap}

noncomputable def bnds (ps : List String) (vs : List Value) : List (Str × Value) := (ps.map Str.ofString).zip vs

theorem bind_local {kindOf : Str → Option NameKind} : ∀ (ps : List String) (vs : List V) (cvs : List Value) (m : Str → Option Value), ps.Nodup → VRels G ι h vs cvs → vs.length = ps.length →
    (∀ x v, initL ps vs x = some v → kindOf (Str.ofString x) = some .local → ∃ cv, bindL kindOf (bnds ps cvs) m (Str.ofString x) = some cv ∧ VRel G ι h v cv) ∧
    (∀ x v, initL ps vs x = some v → kindOf (Str.ofString x) ≠ some .local → ∃ cv, bindC kindOf (bnds ps cvs) m (Str.ofString x) = some cv ∧ VRel G ι h v cv) ∧
    (∀ x, x ∉ ps.map Str.ofString → bindL kindOf (bnds ps cvs) m x = m x ∧ bindC kindOf (bnds ps cvs) m x = m x) ∧ ∀ x v, initL ps vs x = some v → x ∈ ps
  | [], vs, cvs, m, _, hv, hl => by
    have : vs = [] := List.length_eq_zero_iff.mp hl
    subst this
    exact ⟨fun x v e => by simp [initL] at e, fun x v e => by simp [initL] at e, fun x _ => ⟨rfl, rfl⟩, fun x v e => by simp [initL] at e⟩
  | p :: ps, [], cvs, m, _, hv, hl => by simp at hl
  | p :: ps, v :: vs, cvs, m, hn, ⟨cv, cvs', e, r1, r2⟩, hl => by
    subst e
    rw [List.nodup_cons] at hn
    have hl' : vs.length = ps.length := by simpa using hl
    have hp : Str.ofString p ∉ ps.map Str.ofString := fun hm => by
      obtain ⟨y, hy, e⟩ := List.mem_map.mp hm
      exact hn.1 (ofString_inj e ▸ hy)
    have step : bnds (p :: ps) (cv :: cvs') = (Str.ofString p, cv) :: bnds ps cvs' := rfl
    have hin : ∀ x v', initL (p :: ps) (v :: vs) x = some v' → (x = p ∧ v' = v) ∨ (x ≠ p ∧ initL ps vs x = some v') := fun x v' e => upd_some e
    have B := fun m' => bind_local (kindOf := kindOf) ps vs cvs' m' hn.2 r2 hl'
    refine ⟨fun x v' e1 e2 => ?_, fun x v' e1 e2 => ?_, fun x hx => ?_, fun x v' e1 => ?_⟩
    · rcases hin x v' e1 with ⟨rfl, rfl⟩ | ⟨hne, e⟩
      · rw [step]; unfold bindL; rw [if_pos e2, ((B _).2.2.1 _ hp).1]; exact ⟨cv, if_pos rfl, r1⟩
      · rw [step]; unfold bindL; exact (B _).1 x v' e e2
    · rcases hin x v' e1 with ⟨rfl, rfl⟩ | ⟨hne, e⟩
      · rw [step]; unfold bindC; rw [if_neg e2, ((B _).2.2.1 _ hp).2]; exact ⟨cv, if_pos rfl, r1⟩
      · rw [step]; unfold bindC; exact (B _).2.1 x v' e e2
    · rw [List.map_cons, List.mem_cons, not_or] at hx
      rw [step]
      unfold bindL bindC
      refine ⟨((B _).2.2.1 x hx.2).1.trans ?_, ((B _).2.2.1 x hx.2).2.trans ?_⟩
      · split <;> first | exact if_neg hx.1 | rfl
      · split <;> first | exact if_neg hx.1 | rfl
    · rcases hin x v' e1 with ⟨rfl, rfl⟩ | ⟨hne, e⟩
      · exact .head _
      · exact .tail _ ((B (fun _ => none)).2.2.2 x v' e)

/-- an exception leaves its frame -/
theorem XPost.leave {c : String} {ev : Value} {outer : List Env} {R : Result → Shared → Prop} {E : Value → Shared → Prop} {s₁ : Shared} {fA : Around} (hf : fA.frames = some (env :: outer)) (hA : A.frames = some outer) (x : XPost G fA env ι s₁ c ι' q' s' ev)
    (st : s.heap.StaysIn s₁.heap) (own0 : ∀ a ∈ own env, s.heap.get? a = none) (frm : env.frame = some env.locals)
    (hR : ∀ s'', CXPost G A ι s c ι' q'.H s'' ev → R (.error ev) s'') : wpAny G.M fA (leaving env ev) (fun _ s'' => R (.error ev) s'') E s' := by
  obtain ⟨e, C, B, L, rfl, h2, h3, fl, h5, h6, h7, h8⟩ := x.ex
  have hfs : fA.frames.getD [] = env :: outer := by rw [hf]; rfl
  have hAs : A.frames.getD [] = outer := by rw [hA]; rfl
  have hL : L = env.locals := Option.some.inj (h3.symm.trans frm)
  have hfr : frs fA = env.locals :: frs A := by
    show (fA.frames.getD []).filterMap (·.frame) = _
    rw [hfs, List.filterMap_cons, frm]
    show _ = env.locals :: (A.frames.getD []).filterMap (·.frame)
    rw [hAs]
  rw [hfs] at fl h7
  obtain ⟨b1, b2, b3, oe, vs, a0, c1, c2, c3, c4, c5⟩ := id fl
  have nf : ∀ a o, s.heap.get? a = some o → a ∉ ι → a ∉ frs A → a ∉ own env ++ ι ∧ a ∉ frs fA := fun a o e hi hfa => by
    have ho : a ∉ own env := fun ho => by rw [own0 a ho] at e; cases e
    exact ⟨fun hm => (List.mem_append.mp hm).elim ho hi, fun hm => by
      rw [hfr] at hm
      rcases List.mem_cons.mp hm with rfl | hm
      · exact ho (.head _)
      · exact hfa hm⟩
  have exB : ∀ a o, s.heap.get? a = some o → a ∉ ι → a ∉ frs A → B.get? a = some o := fun a o e hi hfa => h8 a o (st a o e) (nf a o e hi hfa).1 (nf a o e hi hfa).2
  have fin : ∀ h'', Heap.FlyingW B outer e (.ref C) a0 h'' → s'.heap.UpToSlots h'' → R (.error (.ref e)) { s' with heap := h'' } := fun h'' fw up => by
    have fs'' : FsOk G outer ι' h'' := fun env' he => (h7.slots up) env' (.tail _ he)
    refine hR _ ⟨x.pre, ⟨e, C, B, a0, rfl, h2, by rw [hAs]; exact fw, h5, by rw [hAs]; exact fs'', exB⟩, fun a o ea => ?_, fun a o ea hi => ?_, fun a ha => ?_, x.gens, x.os⟩
    · by_cases h2 : a ∈ ι
      · obtain ⟨i, hi⟩ := List.mem_iff_getElem?.mp h2
        have hi' := getElem?_prefix x.pre hi
        obtain ⟨oa, hoa⟩ : ∃ oa, q'.H[i]? = some oa := ⟨_, List.getElem?_eq_getElem (h5.len ▸ (List.getElem?_eq_some_iff.mp hi').1)⟩
        obtain ⟨o', e'⟩ := (h5.obj i a oa hi' hoa).there
        exact ⟨o', fw.1 _ _ e'⟩
      · by_cases h3 : a ∈ frs A
        · obtain ⟨o', e', _⟩ := frames_mut (A := A) (by rw [hAs]; exact fs'') h3; exact ⟨o', e'⟩
        · exact ⟨o, fw.1 _ _ (exB a o ea h2 h3)⟩
    · by_cases h3 : a ∈ frs A
      · have ho : a ∉ own env := fun ho => by rw [own0 a ho] at ea; cases ea
        obtain ⟨sl, e1⟩ := x.up a o (st a o ea) fun hm => (List.mem_append.mp hm).elim ho hi
        obtain ⟨o', e', es, n, d⟩ := frames_mut (A := A) (ι := ι') (h := s'.heap) (fun env' he => h7 env' (by rw [hAs] at he; exact .tail _ he)) h3
        rw [e1] at e'; cases e'
        obtain ⟨sl2, e2⟩ := up a _ e1 fun vs q => by rw [d] at q; cases q
        exact ⟨sl2, e2⟩
      · exact ⟨o.slots, fw.1 _ _ (exB a o ea hi h3)⟩
    · rcases x.new a ha with h1 | h1
      · exact .inl h1
      · refine .inr ?_
        cases e : s.heap.get? a with
        | none => rfl
        | some o => rw [st a o e] at h1; cases h1
  rcases c5 with c5 | ⟨T, oT, ts, fl', d1, d2, d3, d4, d5, d6, d7⟩
  · refine wpAny_leaving_firstW hf b3 h3 c1 b1 b2 c3 c5 c4 fun h'' hl => ?_
    obtain ⟨k1, ⟨_, _, k2⟩, k3, k4⟩ := hl
    exact fin h'' ⟨k1, b2, k2, by rw [← c2]; exact k3⟩ k4
  · rcases d7 with rfl | rfl
    · refine wpAny_leaving_nextW (cls := .ref C) (a0 := a0) hf b3 h3 ⟨oe, vs, T, oT, ts, c1, ⟨c2, c4⟩, c3, d1, d2, d3, d4, d5, d6⟩ b1 b2 fun h'' hl => ?_
      obtain ⟨k1, ⟨_, _, k2⟩, k3, k4⟩ := hl
      exact fin h'' ⟨k1, b2, k2, k3⟩ k4
    · unfold leaving
      refine wpAny_bind (wpAny_noteFrame_againW h3 ⟨oe, vs, T, oT, ts, c1, ⟨c2, c4⟩, c3, d1, d2, d3, d4, d5, d6⟩ ?_)
      refine wpAny_landsW (base := B) (l := env :: outer) (cls := .ref C) (a0 := a0) (L := L) ⟨b1, b2, b3, oe, vs, T, oT, ts, c1, ⟨c2, c4⟩, c3, d1, d2, d3, d4, d5, d6⟩ fun h'' hl up => ?_
      obtain ⟨k1, k2, ⟨_, _, k3⟩, k4⟩ := hl
      exact fin h'' ⟨k1, k2, k3, k4⟩ up

/-- the shape of a def: all that is asked of its object -/
structure FnShape (K : Frag) (f : Addr) (fd : FuncData) (ps : List String) (body : List Stmt) : Prop where
  at' : ∃ oc od sl, K.lookup f = some ⟨oc, od, .func fd, sl⟩
  code : codeIn K fd.code fd.qualname = true
  body : fd.body = .stmts body
  clo : fd.closure = []
  glob : fd.globals = mainGlobals
  blt : fd.builtins = builtinsNs
  bind : ∀ vals, vals.length = ps.length → bindArgs fd ⟨vals, []⟩ = pure (bnds ps vals)
  kinds : ∀ x ∈ ps, fd.scope.names.lookup (Str.ofString x) = some .local ∨ fd.scope.names.lookup (Str.ofString x) = some .cell
  nd : ps.Nodup
  ndc : ((cellsFrom 0 fd.scope.names []).map (·.1)).Nodup
  co : fd.scope.isCoroutine = false
  gen : fd.scope.isGenerator = false
  kd : fd.scope.kind = .function

theorem FnOk.of (C : CxOk G) {f : Addr} {fd : FuncData} {ps : List String} {body : List Stmt} {m : Cm Fl} (Z : FnShape G.K f fd ps body) (hm : ∀ L, Exs G hq k (callEnvC fd L f) body m) : FnOk G hq (k + 1) f (fnV ps m) := by
  intro A ι H s vs cvs ha ⟨fs, hfs⟩ S0 F0 hgens hos hv
  have hfs' : A.frames.getD [] = fs := by rw [hfs]; rfl
  unfold fnV
  by_cases hlen : vs.length = ps.length
  · rw [if_pos hlen]
    have hlc : cvs.length = ps.length := hv.length.trans hlen
    obtain ⟨oc, od, sl, hK⟩ := Z.at'
    have X := C.X.keeps S0.keep
    have key : ∀ R : Result → Shared → Prop, (∀ s₁, InCallC s (callEnvC fd s.heap.objs.size f).locals (bindL (callEnvC fd s.heap.objs.size f).kindOf (bnds ps cvs) fun _ => none) (callEnvC fd s.heap.objs.size f).cells
        (bindC (callEnvC fd s.heap.objs.size f).kindOf (bnds ps cvs) fun _ => none) s₁ →
      wpAny (model G.prog G.w) (A.deeper (callEnvC fd s.heap.objs.size f)) (execs body (callEnvC fd s.heap.objs.size f)) (fun f s' => R (.ok (.ret (match f with | .ret v => v | _ => .none))) s')
        (fun e s' => wpAny (model G.prog G.w) (A.deeper (callEnvC fd s.heap.objs.size f)) (leaving (callEnvC fd s.heap.objs.size f) e) (fun _ s'' => R (.error e) s'') (fun e' s'' => R (.error e') s'') s') s₁) →
        codeAny G.M A (.call (.ref f) ⟨cvs, []⟩) R s := fun R hh => by
      refine codeAny_call_cells (fd := fd) (body := body) (by have := ha.depth; show A.depth < 1000; omega) (X _ _ hK) rfl (C.lim.keeps S0.keep) (codeRec_of X Z.code) Z.body (Z.bind cvs hlc) Z.clo (fun x hx => ?_) hh Z.co Z.gen Z.kd
      have : x.1 ∈ ps.map Str.ofString := (List.of_mem_zip hx).1
      obtain ⟨y, hy, e⟩ := List.mem_map.mp this
      rw [← e]
      rcases Z.kinds y hy with h1 | h1
      · exact .inl h1
      · exact .inr ⟨h1, cellsFrom_some _ _ _ (.inl h1)⟩
    have start : ∀ s₁, InCallC s (callEnvC fd s.heap.objs.size f).locals (bindL (callEnvC fd s.heap.objs.size f).kindOf (bnds ps cvs) fun _ => none) (callEnvC fd s.heap.objs.size f).cells
        (bindC (callEnvC fd s.heap.objs.size f).kindOf (bnds ps cvs) fun _ => none) s₁ →
        AOk hq k (A.deeper (callEnvC fd s.heap.objs.size f)) (callEnvC fd s.heap.objs.size f) ∧ Rel G (A.deeper (callEnvC fd s.heap.objs.size f)) (callEnvC fd s.heap.objs.size f) ι ⟨initL ps vs, H⟩ s₁ ∧ s.heap.StaysIn s₁.heap ∧
          ∀ a ∈ own (callEnvC fd s.heap.objs.size f), s.heap.get? a = none := fun s₁ I => by
      have st : s.heap.StaysIn s₁.heap := I.toInCall.keep
      have ab : ∀ a ∈ own (callEnvC fd s.heap.objs.size f), s.heap.get? a = none := fun a ha => by
        refine Heap.get?_none_of_le ?_
        rcases List.mem_cons.mp ha with rfl | ha
        · exact Nat.le_refl _
        · obtain ⟨p, hp, rfl⟩ := List.mem_map.mp ha
          exact Nat.le_of_lt (I.above p.1 p.2 hp)
      have dis : ∀ a ∈ own (callEnvC fd s.heap.objs.size f), a ∉ ι ∧ G.hB.get? a = none := fun a ha => by
        have n := ab a ha
        refine ⟨fun hi => ?_, ?_⟩
        · obtain ⟨o, e, _⟩ := StOk.mut (q := ⟨fun _ => none, H⟩) S0 hi; rw [n] at e; cases e
        · cases e : G.hB.get? a with
          | none => rfl
          | some o => rw [S0.keep a o e] at n; cases n
      obtain ⟨hh, tk, es⟩ := I.toInCall.same
      have hv1 := hv.mono (List.prefix_refl ι) (Imm.of_stays st)
      obtain ⟨bl, _, _, mem⟩ := bind_local (kindOf := (callEnvC fd s.heap.objs.size f).kindOf) ps vs cvs (fun _ => none) Z.nd hv1 hlen
      obtain ⟨_, bc, _, _⟩ := bind_local (kindOf := (callEnvC fd s.heap.objs.size f).kindOf) ps vs cvs (fun _ => none) Z.nd hv1 hlen
      have cellAt : ∀ p ∈ (callEnvC fd s.heap.objs.size f).cells, (callEnvC fd s.heap.objs.size f).cells.lookup p.1 = some p.2 := fun p hp => by
        refine lookup_of_mem_nodup ?_ hp
        show ((cellsFrom (s.heap.objs.size + 1) fd.scope.names []).map (·.1)).Nodup
        rw [cellsFrom_names fd.scope.names (s.heap.objs.size + 1) 0 [] [] rfl]
        exact Z.ndc
      refine ⟨⟨⟨ha.hd, by have := ha.depth; show A.depth + 1 + 3 * k ≤ 800; omega, by have := ha.units; show A.units + 3 + 50 * k ≤ 9000; omega⟩, ?_⟩, ⟨S0.stays st, ?_, ?_, ?_, ?_⟩, st, ab⟩
      · exact ⟨callEnvC fd s.heap.objs.size f, fs, Around.frames_deeper hfs, rfl, Z.gen, Z.co, Z.blt, Z.glob⟩
      · refine ⟨Z.kd, Z.glob, Z.blt, ⟨_, I.toInCall.ns, bl⟩, fun x v e1 e2 => ?_, fun p hp => ?_, ?_, fun a ha => (dis a ha).1, fun a ha => (dis a ha).2⟩
        · obtain ⟨cv, c1, c2⟩ := bc x v e1 (by rcases e2 with e2 | e2 <;> rw [e2] <;> decide)
          have hk : fd.scope.names.lookup (Str.ofString x) = some .cell := by
            rcases Z.kinds x (mem x v e1) with h1 | h1
            · have e3 : (callEnvC fd s.heap.objs.size f).kindOf (Str.ofString x) = some .local := h1
              rw [e3] at e2; rcases e2 with e2 | e2 <;> cases e2
            · exact h1
          obtain ⟨c, hc⟩ := Option.isSome_iff_exists.mp (cellsFrom_some fd.scope.names (s.heap.objs.size + 1) [] (.inl hk))
          obtain ⟨o, ho, hd⟩ := I.cell _ _ hc
          rw [c1] at hd
          exact ⟨c, o, cv, hc, ho, hd, c2⟩
        · obtain ⟨o, ho, hd⟩ := I.cell _ _ (cellAt p hp)
          exact ⟨o, _, ho, hd⟩
        · exact List.pairwise_map.mpr I.apart
      · show FsOk G ((A.deeper (callEnvC fd s.heap.objs.size f)).frames.getD []) ι s₁.heap
        rw [Around.frames_deeper hfs]
        intro env' he
        rcases List.mem_cons.mp he with rfl | he
        · obtain ⟨o, es', ep, ho, hd, _⟩ := I.toInCall.ns
          exact ⟨by rw [show (callEnvC fd s.heap.objs.size f).scope.kind = .function from Z.kd]; decide, _, o, rfl, ho, ⟨es', ep, hd⟩, (dis _ (.head _)).1, (dis _ (.head _)).2⟩
        · rw [hfs'] at F0; exact F0.stays st env' he
      · rw [es]; exact hgens
      · rw [es]; exact hos
    have back : ∀ {s₁ ι' q' s'}, Post G (A.deeper (callEnvC fd s.heap.objs.size f)) (callEnvC fd s.heap.objs.size f) ι s₁ ι' q' s' → s.heap.StaysIn s₁.heap → (∀ a ∈ own (callEnvC fd s.heap.objs.size f), s.heap.get? a = none) →
        CPost G A ι s ι' q'.H s' := fun {s₁ ι' q' s'} P st ab => by
      have nf : ∀ a o, s.heap.get? a = some o → a ∉ ι → a ∉ own (callEnvC fd s.heap.objs.size f) ++ ι := fun a o e hi hm => (List.mem_append.mp hm).elim (fun ho => by rw [ab a ho] at e; cases e) hi
      refine ⟨P.pre, P.rel.st, fun env' he => ?_, ⟨fun a o e => P.kp.size a o (st a o e), fun a o e hi => P.kp.up a o (st a o e) (nf a o e hi), fun a o e hi hf => P.kp.ex a o (st a o e) (nf a o e hi) fun hm => ?_⟩, fun a ha => ?_, P.rel.gens, P.rel.os⟩
      · have := P.rel.fs
        rw [Around.frames_deeper hfs] at this
        rw [hfs'] at he
        exact this env' (.tail _ he)
      · unfold frs at hm hf
        rw [Around.frames_deeper hfs] at hm
        rw [hfs'] at hf
        rcases List.mem_cons.mp hm with rfl | hm
        · have : s.heap.get? s.heap.objs.size = some o := e
          rw [Heap.get?_none_of_le (Nat.le_refl _)] at this; cases this
        · exact hf hm
      · rcases P.new a ha with h1 | h1
        · exact .inl h1
        · refine .inr ?_
          cases e : s.heap.get? a with
          | none => rfl
          | some o => rw [st a o e] at h1; cases h1
    cases hmm : m ⟨initL ps vs, H⟩ with
    | stuck => trivial
    | ok fl q1 =>
      cases fl with
      | next =>
        intro R hR
        refine key R fun s₁ I => ?_
        obtain ⟨ha', R', st, ab⟩ := start s₁ I
        have h1 := hm s.heap.objs.size _ _ _ _ ha' R'
        rw [hmm] at h1
        refine h1 _ _ fun ι' cf s' P hf => ?_
        rw [show cf = .next from hf]
        exact hR ι' .none s' (back P st ab) rfl
      | ret v =>
        intro R hR
        refine key R fun s₁ I => ?_
        obtain ⟨ha', R', st, ab⟩ := start s₁ I
        have h1 := hm s.heap.objs.size _ _ _ _ ha' R'
        rw [hmm] at h1
        refine h1 _ _ fun ι' cf s' P hf => ?_
        obtain ⟨cv, rfl, hv⟩ := hf
        exact hR ι' cv s' (back P st ab) hv
    | exc c q1 =>
      intro R hR
      refine key R fun s₁ I => ?_
      obtain ⟨ha', R', st, ab⟩ := start s₁ I
      have h1 := hm s.heap.objs.size _ _ _ _ ha' R'
      rw [hmm] at h1
      refine h1 _ _ fun ι' ev s' x => ?_
      exact x.leave (A := A) (Around.frames_deeper hfs) hfs st ab rfl fun s'' y => hR ι' ev s'' y
  · rw [if_neg hlen]; trivial
end
end Mine

set_option Elab.async false
set_option linter.unusedVariables false
namespace Mine
open PySem PySem.W PyProof.Rows

section
variable {G : Cx} {hq : Bool} {k : Nat} {env : Env} {A : Around} {ι ι' : List Addr} {q q' : S} {s s' : Shared} {H H' : Hp} {h : Heap}

noncomputable def makeV (c : String) (F : Fc) (vs : List V) : Cm V := fun q => match F (.inst c q.H.length :: vs) (q.H ++ [.flds []]) with
  | .ok .none H' => .ok (.inst c q.H.length) ⟨q.l, H'⟩
  | .ok _ _ => .stuck
  | .exc c' H' => .exc c' ⟨q.l, H'⟩
  | .stuck => .stuck

theorem VRel.none_of {cv : Value} (x : VRel G ι h .none cv) : cv = .none := x

theorem CPost.frames {A' : Around} (e : A'.frames = A.frames) (x : CPost G A' ι s ι' H' s') : CPost G A ι s ι' H' s' :=
  ⟨x.pre, x.st, by rw [← e]; exact x.fs, by have := x.kp; unfold frs at *; rw [← e]; exact this, x.new, x.gens, x.os⟩
theorem CXPost.frames {A' : Around} {c : String} {ev : Value} (e : A'.frames = A.frames) (x : CXPost G A' ι s c ι' H' s' ev) : CXPost G A ι s c ι' H' s' ev :=
  ⟨x.pre, by have := x.ex; unfold frs at *; rw [← e]; exact this, x.size, x.up, x.new, x.gens, x.os⟩

theorem P_make (C : CxOk G) {c : String} {a fI : Addr} {F : Fc} {k0 : Nat} (hc : G.cls c = some a) (hm : makesIn G.K a = true) (hi : findIn G.K (.ref a) "__init__" = some (some (.ref fI))) (hf : typeIn G.K (.ref fI) = some (.type "function"))
    (hF : FnOk G hq k0 fI F) (hk : k0 < k) (ha : AOk hq k A env) (R : Rel G A env ι q s) {vs : List V} {cvs : List Value} (hv : VRels G ι s.heap vs cvs) :
    Sat G A env ι s (makeV c F vs q) (VRel G) (fun Q E s => codeAny G.M A (.call (.ref a) ⟨cvs, []⟩) (wantV Q E) s) := by
  have X := C.X.keeps R.st.keep
  have st : s.heap.StaysIn ((s.heap.push emptyDict).push (instObj a s.heap.objs.size)) := fun b o e => Heap.get?_push_of_some _ (Heap.get?_push_of_some _ e)
  have nw : s.heap.get? s.heap.objs.size = none := Heap.get?_none_of_le (Nat.le_refl _)
  have gd : ((s.heap.push emptyDict).push (instObj a s.heap.objs.size)).get? s.heap.objs.size = some emptyDict := by heap_get
  have gi : ((s.heap.push emptyDict).push (instObj a s.heap.objs.size)).get? (s.heap.objs.size + 1) = some (instObj a s.heap.objs.size) := by heap_get
  have P1 : Post G A env ι s (ι ++ [s.heap.objs.size]) { q with H := q.H ++ [.flds []] } { s with heap := (s.heap.push emptyDict).push (instObj a s.heap.objs.size), toks := s.toks } :=
    Post.alloc R st nw ⟨[], 0, gd, rfl⟩
  have vi : ∀ {ι' h'}, (ι ++ [s.heap.objs.size]) <+: ι' → Imm ((s.heap.push emptyDict).push (instObj a s.heap.objs.size)) h' → VRel G ι' h' (.inst c q.H.length) (.ref (s.heap.objs.size + 1)) := fun {ι' h'} hp him =>
    VRel.mono (v := .inst c q.H.length) hp him ⟨s.heap.objs.size, s.heap.objs.size + 1, a, _, by rw [← R.st.len]; simp, hc, rfl, gi, rfl, rfl, rfl⟩
  have hu : (A.under (.builtin "type.__call__" ⟨.ref a :: cvs, []⟩)).frames = A.frames := rfl
  have hr := hF (A.under (.builtin "type.__call__" ⟨.ref a :: cvs, []⟩)) (ι ++ [s.heap.objs.size]) (q.H ++ [.flds []]) { s with heap := (s.heap.push emptyDict).push (instObj a s.heap.objs.size), toks := s.toks } (.inst c q.H.length :: vs) (.ref (s.heap.objs.size + 1) :: cvs)
    ⟨ha.hd, by have := ha.depth; show A.depth + 1 + 3 * k0 ≤ 800; omega, by have := ha.units; show A.units + (1 + 3 * 0) + 50 * k0 ≤ 9000; omega⟩ (let ⟨fenv, rest, h1, _⟩ := ha.fr; ⟨_, h1⟩) P1.rel.st P1.rel.fs P1.rel.gens P1.rel.os
    (vCons (vi (List.prefix_refl _) (.refl _)) (hv.mono P1.pre (Imm.of_stays st)))
  have core : ∀ R' : Result → Shared → Prop, codeAny G.M (A.under (.builtin "type.__call__" ⟨.ref a :: cvs, []⟩)) (.call (.ref fI) ⟨.ref (s.heap.objs.size + 1) :: cvs, []⟩) (InitBack (s.heap.objs.size + 1) R') { s with heap := (s.heap.push emptyDict).push (instObj a s.heap.objs.size), toks := s.toks } →
      codeAny G.M A (.call (.ref a) ⟨cvs, []⟩) R' s := fun R' z => by
    obtain ⟨hh, g, d, t, os⟩ := s
    exact make_core (makes_of X hm) (looks_findIn X hi) (fun self => bind_fn X self hf) (.inl rfl) z
  unfold makeV
  cases hFv : F (.inst c q.H.length :: vs) (q.H ++ [.flds []]) with
  | stuck => trivial
  | ok v H' =>
    rw [hFv] at hr
    cases v <;> try trivial
    intro Q E hQ
    refine core _ (hr _ fun ι' cv s' c r => ?_)
    rw [VRel.none_of r]
    have P2 := Post.ofC P1.rel (CPost.frames hu c)
    exact ⟨rfl, hQ ι' _ s' (P1.trans P2) (vi P2.pre (P1.rel.imm P2.kp))⟩
  | exc c' H' =>
    rw [hFv] at hr
    intro Q E hQ
    refine core _ (hr _ fun ι' ev s' x => ?_)
    exact hQ ι' ev s' (P1.transX (XPost.ofC (q := { q with H := q.H ++ [.flds []] }) ha P1.rel (CXPost.frames hu x)))

theorem E_make (C : CxOk G) {x : String} {a fI : Addr} {F : Fc} {k0 : Nat} {es : List Expr} {p pos : Pos} {m : Cm (List V)} (hx : env.kindOf (Str.ofString x) = some .globalImplicit)
    (hv : nsIn G.K mainGlobals (Str.ofString x) = some (some (.ref a))) (hkeep : keepIn G.K (.ref a) = true) (hd : (Str.ofString x == ("__debug__" : Str)) = false) (hc : G.cls x = some a) (hm : makesIn G.K a = true)
    (hi : findIn G.K (.ref a) "__init__" = some (some (.ref fI))) (hf : typeIn G.K (.ref fI) = some (.type "function")) (hF : FnOk G hq k0 fI F) (hk : k0 < k) (h1 : EvL G hq k env es m)
    (hp : (backTo pos (starEach es env)).any (·.1) = false) :
    Ev G hq k env (.Call (.Name (Str.ofString x) p) es [] pos) (m.bnd fun vs => makeV x F vs) := by
  intro A ι q s ha R
  refine (Sat.bnd (T' := fun vs Q E s₁ => G.K.In s₁.heap ∧ codeAny G.M A (.call (.ref a) ⟨vs, []⟩) (wantV Q E) s₁) (h1 pos A ι q s ha R) fun a' q' ι' b s' _ P hv =>
    (P_make C hc hm hi hf hF hk ha P.rel hv).imp fun Q E z => ⟨C.X.keeps P.rel.st.keep, z⟩).imp fun Q E y => ?_
  show wpAny G.M A (do callWith pos (← eval (.Name (Str.ofString x) p) env) [] (backTo pos (starEach es env)) []) Q E s
  refine wpAny_bind (glob_load C R hx hv hd ?_)
  exact callWith_of (P := G.K.In) (by rw [hp]; rfl) (keeps_K hkeep) (evalArgs_any hp (wpAny_mono y (fun vs s₁ z => ⟨z.1, wpAny_call z.2⟩) fun _ _ z => z))
end
end Mine

set_option Elab.async false
set_option linter.unusedVariables false
namespace Mine
open PySem PySem.W PyProof.Rows

section
variable {G : Cx} {hq : Bool} {k : Nat} {env : Env} {A : Around} {ι ι' : List Addr} {q q' : S} {s s' : Shared} {H H' : Hp} {h : Heap}

theorem hd_if {hs : List ExceptHandler} {x c : String} {m m' : Cm Fl} (h1 : HdOk G k env hs x m) (h2 : HdOk G k env hs c m') : HdOk G k env hs c (if c = x then m else m') := by
  by_cases e : c = x
  · subst e; rw [if_pos rfl]; exact h1
  · rw [if_neg e]; exact h2
theorem lookup_mem {L : List (String × Addr)} {c : String} {a : Addr} (e : L.lookup c = some a) : (c, a) ∈ L := mem_of_lookup e
theorem hasF_of {f : String} {L : List (String × Addr)} (hL : ∀ c, G.cls c = L.lookup c) (h : (L.all fun p => attrOk G.K p.2 (Str.ofString f)) = true) : HasF G f := fun c a e =>
  (List.all_eq_true.mp h) (c, a) (lookup_mem ((hL c).symm.trans e))
theorem hasS_of {f : String} {L : List (String × Addr)} (hL : ∀ c, G.cls c = L.lookup c) (h : (L.all fun p => setOk G.K p.2 (Str.ofString f)) = true) : HasS G f := fun c a e =>
  (List.all_eq_true.mp h) (c, a) (lookup_mem ((hL c).symm.trans e))
end
theorem len1 {α : Type} {l : List α} (h : l.length = 1) : ∃ a, l = [a] := List.length_eq_one_iff.mp h
theorem lenS {α : Type} {n : Nat} {l : List α} (h : l.length = n + 1) : ∃ a r, l = a :: r ∧ r.length = n := by
  cases l with
  | nil => cases h
  | cons a r => exact ⟨a, r, rfl, by simpa using h⟩
theorem len2 {α : Type} {l : List α} (h : l.length = 2) : ∃ a b, l = [a, b] := by obtain ⟨a, r, rfl, h2⟩ := lenS h; obtain ⟨b, rfl⟩ := len1 h2; exact ⟨a, b, rfl⟩
theorem len3 {α : Type} {l : List α} (h : l.length = 3) : ∃ a b c, l = [a, b, c] := by obtain ⟨a, r, rfl, h2⟩ := lenS h; obtain ⟨b, c, rfl⟩ := len2 h2; exact ⟨a, b, c, rfl⟩
theorem len4 {α : Type} {l : List α} (h : l.length = 4) : ∃ a b c d, l = [a, b, c, d] := by obtain ⟨a, r, rfl, h2⟩ := lenS h; obtain ⟨b, c, d, rfl⟩ := len3 h2; exact ⟨a, b, c, d, rfl⟩
end Mine

set_option Elab.async false
set_option linter.unusedVariables false
namespace Mine
open PySem PySem.W PyProof.Rows

theorem run_of {G : Cx} (C : CxOk G) {f : Addr} {F : Fc} {k : Nat} (hF : FnOk G true k f F) (hk : k ≤ 100) {s₁ : Shared} (hB : G.hB = s₁.heap) (hos : s₁.os = G.os) (hg : s₁.gens = #[]) (hval : ∃ H', F [.scr] [] = .ok (.bool true) H')
    {R : Result → Shared → Prop} (hR : ∀ s', (∀ b o, s₁.heap.get? b = some o → s'.heap.get? b = some o) → s'.os = s₁.os → s'.gens = #[] → R (.ok (.ret (.bool true))) s') :
    codeAny G.M callerA (.call (.ref f) ⟨[.ref G.sa], []⟩) R s₁ := by
  obtain ⟨H', hv⟩ := hval
  have st : StOk G [] [] s₁.heap := ⟨by rw [hB]; exact fun _ _ e => e, rfl, List.nodup_nil, fun a ha => (nomatch ha), fun i a o e => by simp at e⟩
  have := hF callerA [] [] s₁ [.scr] [.ref G.sa] ⟨fun _ => rfl, by show 301 + 3 * k ≤ 800; omega, by show 4 + 50 * k ≤ 9000; omega⟩ ⟨[], rfl⟩ st (fun env he => by cases he) hg hos (vCons rfl vNil)
  rw [hv] at this
  refine this R fun ι' cv s' P r => ?_
  rw [show cv = .bool true from r]
  exact hR s' (fun b o e => P.st.keep b o (by rw [hB]; exact e)) (by rw [P.os, hos]) P.gens
end Mine

set_option Elab.async false
set_option linter.unusedVariables false
set_option linter.unusedSimpArgs false
namespace Mine
open PySem PySem.W PyProof.Rows

/-! ## running abstract programs -/
section
variable {α β : Type} {q q' : S} {l : Loc} {H : Hp}
theorem r_bnd (m : Cm α) (f : α → Cm β) (q : S) : (m.bnd f) q = match m q with | .ok a q' => f a q' | .exc c q' => .exc c q' | .stuck => .stuck := rfl
theorem r_pur (a : α) (q : S) : Cm.pur a q = .ok a q := rfl
theorem r_get (x : String) (l : Loc) (H : Hp) : getV x ⟨l, H⟩ = match l x with | some v => .ok v ⟨l, H⟩ | none => .stuck := rfl
theorem r_set (x : String) (v : V) (l : Loc) (H : Hp) : setV x v ⟨l, H⟩ = .ok () ⟨upd l x v, H⟩ := rfl
theorem r_seq (m m' : Cm Fl) (q : S) : seqV m m' q = match m q with | .ok .next q' => m' q' | .ok (.ret v) q' => .ok (.ret v) q' | .exc c q' => .exc c q' | .stuck => .stuck := by
  unfold seqV Cm.bnd
  cases m q with
  | ok a q' => cases a <;> rfl
  | exc c q' => rfl
  | stuck => rfl
theorem r_call (F : Fc) (vs : List V) (l : Loc) (H : Hp) : callF F vs ⟨l, H⟩ = match F vs H with | .ok v H' => .ok v ⟨l, H'⟩ | .exc c H' => .exc c ⟨l, H'⟩ | .stuck => .stuck := rfl
theorem r_make (c : String) (F : Fc) (vs : List V) (l : Loc) (H : Hp) : makeV c F vs ⟨l, H⟩ = match F (.inst c H.length :: vs) (H ++ [.flds []]) with
  | .ok .none H' => .ok (.inst c H.length) ⟨l, H'⟩ | .ok _ _ => .stuck | .exc c' H' => .exc c' ⟨l, H'⟩ | .stuck => .stuck := rfl
theorem r_try (m : Cm Fl) (sel : String → Cm Fl) (q : S) : tryV m sel q = match m q with | .ok f q' => .ok f q' | .exc c q' => (match sel c q' with | .ok f q'' => .ok f q'' | _ => .stuck) | .stuck => .stuck := rfl
theorem r_raise (c : String) (q : S) : raiseV (α := α) c q = .exc c q := rfl
theorem r_ite {b : Bool} (m m' : Cm α) (q : S) : (if b = true then m else m') q = if b = true then m q else m' q := by cases b <;> rfl
theorem r_fn (ps : List String) (m : Cm Fl) (vs : List V) (H : Hp) : fnV ps m vs H = if vs.length = ps.length then (match m ⟨initL ps vs, H⟩ with
  | .ok (.ret v) q => .ok v q.H | .ok .next q => .ok .none q.H | .exc c q => .exc c q.H | .stuck => .stuck) else .stuck := rfl
theorem r_newL (vs : List V) (l : Loc) (H : Hp) : newL vs ⟨l, H⟩ = if vs.length ≤ 1000000 then .ok (.ref H.length) ⟨l, H ++ [.list vs]⟩ else .stuck := rfl
theorem r_attr (f c : String) (i : Nat) (l : Loc) (H : Hp) : attrV f (.inst c i) ⟨l, H⟩ = match H[i]? with | some (.flds fs) => (match fs.lookup f with | some v => .ok v ⟨l, H⟩ | none => .stuck) | _ => .stuck := rfl
theorem r_setAttr (f c : String) (v : V) (i : Nat) (l : Loc) (H : Hp) : setAttrV f v (.inst c i) ⟨l, H⟩ = match H[i]? with | some (.flds fs) => if fs.length < 100 then .ok () ⟨l, H.set i (.flds (fset f v fs))⟩ else .stuck | _ => .stuck := rfl
theorem r_kind (i : Nat) (l : Loc) (H : Hp) : kindV (.ref i) ⟨l, H⟩ = match H[i]? with | some (.list _) => .ok true ⟨l, H⟩ | some (.dict _) => .ok false ⟨l, H⟩ | _ => .stuck := rfl
theorem r_isi (sn : List Int) (T : String) (v : V) (l : Loc) (H : Hp) : isiV sn T v ⟨l, H⟩ = match tyOf sn H v with | some t => .ok (.bool (t == T || (t == "bool" && T == "int"))) ⟨l, H⟩ | none => .stuck := rfl
theorem r_itOf (sn : List Int) (v : V) (l : Loc) (H : Hp) : itOf sn v ⟨l, H⟩ = match itemsOf sn v H with | some xs => .ok ⟨xs, fun H => itemsOf sn v H = some xs⟩ ⟨l, H⟩ | none => .stuck := rfl
theorem r_truth (b : Bool) : truthV (.bool b) = Cm.pur b := rfl
theorem r_append {i : Nat} {xs : List V} (v : V) (l : Loc) (H : Hp) (h : H[i]? = some (.list xs)) (hl : xs.length < 1000000) : appendV (.ref i) v ⟨l, H⟩ = .ok .none ⟨l, H.set i (.list (xs ++ [v]))⟩ := by
  simp [appendV, h, hl]
theorem r_listOf {o : V} {xs : List V} (sn : List Int) (l : Loc) (H : Hp) (h : itemsOf sn o H = some xs) (hl : xs.length ≤ 1000000) : listOfV sn [o] ⟨l, H⟩ = .ok (.ref H.length) ⟨l, H ++ [.list xs]⟩ := by
  simp [listOfV, h, hl]

theorem upd_same (l : Loc) (x : String) (v : V) : upd l x v x = some v := by simp [upd]
theorem upd_ne (l : Loc) {x y : String} (v : V) (h : y ≠ x) : upd l x v y = l y := by simp [upd, h]
end

/-! ### loops -/
section
variable {g : Hp → Prop} {bd : V → Cm Unit} {body : Cm Fl}
open Classical in
theorem forV_cons (x : V) (r : List V) (q : S) : forV g bd body (x :: r) q = match ((bd x).bnd fun _ => body) q with
    | .ok .next q' => if g q'.H then forV g bd body r q' else .stuck
    | .ok (.ret v) q' => .ok (.ret v) q'
    | .exc c q' => .exc c q'
    | .stuck => .stuck := by
  show ((bd x).bnd fun _ => body.bnd (turnV g (forV g bd body r))) q = _
  simp only [r_bnd]
  cases bd x q with
  | stuck => rfl
  | exc c q' => rfl
  | ok u q' =>
    dsimp only
    cases body q' with
    | stuck => rfl
    | exc c q' => rfl
    | ok f q' => cases f <;> rfl
theorem forV_next {x : V} {r : List V} {q q' : S} (h : ((bd x).bnd fun _ => body) q = .ok .next q') (hg : g q'.H) : forV g bd body (x :: r) q = forV g bd body r q' := by rw [forV_cons, h]; exact if_pos hg
theorem forV_exc {x : V} {r : List V} {q q' : S} {c : String} (h : ((bd x).bnd fun _ => body) q = .exc c q') : forV g bd body (x :: r) q = .exc c q' := by rw [forV_cons, h]

theorem forV_ind (I : List V → S → Prop) (step : ∀ x r q, I (x :: r) q → ∃ q', ((bd x).bnd fun _ => body) q = .ok .next q' ∧ g q'.H ∧ I r q') : ∀ xs q, I xs q → ∃ q', forV g bd body xs q = .ok .next q' ∧ I [] q'
  | [], q, h => ⟨q, rfl, h⟩
  | x :: r, q, h => by
    obtain ⟨q', h1, h2, h3⟩ := step x r q h
    rw [forV_next h1 h2]
    exact forV_ind I step r q' h3
end

/-! ### data -/
theorem shaped_int (i : Int) : SeqAt.shaped (.int i) = true := by simp [SeqAt.shaped, PyData.canLay0, PyData.depth]
noncomputable def Sh (n : Nat) (d : PyData) : Prop := d.canLay0 = true ∧ d.depth ≤ n
theorem sh_int (n : Nat) (i : Int) : Sh n (.int i) := ⟨by simp [PyData.canLay0], by simp [PyData.depth]⟩
theorem sh_all {n : Nat} : ∀ {ds : List PyData}, (∀ d ∈ ds, Sh n d) → PyData.canLayAll0 ds = true ∧ PyData.depthAll ds ≤ n
  | [], _ => ⟨by simp [PyData.canLayAll0], by simp [PyData.depthAll]⟩
  | d :: ds, h => by
    obtain ⟨h1, h2⟩ := sh_all (n := n) fun e he => h e (.tail _ he)
    obtain ⟨h3, h4⟩ := h d (.head _)
    exact ⟨by simp [PyData.canLayAll0, h1, h3], by simp only [PyData.depthAll]; exact Nat.max_le.mpr ⟨h4, h2⟩⟩
theorem sh_list {n : Nat} {ds : List PyData} (h : ∀ d ∈ ds, Sh n d) : Sh (n + 1) (.list ds) := by
  obtain ⟨h1, h2⟩ := sh_all h
  exact ⟨by simpa [PyData.canLay0] using h1, by simp [PyData.depth]; omega⟩
theorem Sh.shaped {n : Nat} {d : PyData} (h : Sh n d) (hn : n ≤ 64) : SeqAt.shaped d = true := by
  unfold SeqAt.shaped; rw [h.1]; have := h.2; simp; omega

theorem mapO_map {α β γ : Type} (f : β → Option γ) (g : α → β) (h : α → γ) (e : ∀ x, f (g x) = some (h x)) : ∀ xs : List α, mapO f (xs.map g) = some (xs.map h)
  | [] => rfl
  | x :: xs => by simp [mapO, e x, mapO_map f g h e xs]
theorem toD8_int (H : Hp) (i : Int) : toD H 8 (.int i) = some (.int i) := rfl
theorem toD8_ref (H : Hp) (i : Nat) {xs : List V} {ds : List PyData} (h : H[i]? = some (.list xs)) (hd : mapO (toD H 7) xs = some ds) : toD H 8 (.ref i) = some (.list ds) := by
  show (match H[i]? with | some (.list xs) => (mapO (toD H 7) xs).map PyData.list | _ => none) = _
  rw [h]; dsimp only; rw [hd]; rfl
theorem toD_ints (H : Hp) (n : Nat) (xs : List Int) : mapO (toD H (n + 1)) (xs.map V.int) = some (xs.map PyData.int) := mapO_map (toD H (n + 1)) V.int PyData.int (fun _ => rfl) xs
theorem sh_ints (xs : List Int) : Sh 1 (.list (xs.map PyData.int)) := sh_list fun d hd => by obtain ⟨i, _, rfl⟩ := List.mem_map.mp hd; exact sh_int _ _
theorem eqvAll_map {α : Type} [DecidableEq α] (f : α → PyData) (h : ∀ x y, PyData.eqv (f x) (f y) = decide (x = y)) : ∀ xs ys : List α, PyData.eqvAll (xs.map f) (ys.map f) = decide (xs = ys)
  | [], [] => by simp [PyData.eqvAll]
  | [], y :: ys => by simp [PyData.eqvAll]
  | x :: xs, [] => by simp [PyData.eqvAll]
  | x :: xs, y :: ys => by
    simp only [List.map_cons, PyData.eqvAll, h, eqvAll_map f h xs ys, List.cons.injEq, Bool.decide_and]
theorem eqv_int (i j : Int) : PyData.eqv (.int i) (.int j) = decide (i = j) := by simp only [PyData.eqv]; rfl
theorem r_eq_int (i j : Int) (q : S) : eqV (.int i) (.int j) q = .ok (decide (i = j)) q := by
  simp only [eqV, eqD, toD8_int, Option.bind_some, shaped_int, Bool.and_self, if_true, eqv_int]
theorem r_eq_ints {i j : Nat} {xs ys : List Int} {q : S} (h1 : q.H[i]? = some (.list (xs.map .int))) (h2 : q.H[j]? = some (.list (ys.map .int))) : eqV (.ref i) (.ref j) q = .ok (decide (xs = ys)) q := by
  have t1 : toD q.H 8 (.ref i) = some (.list (xs.map PyData.int)) := toD8_ref _ _ h1 (toD_ints _ _ _)
  have t2 : toD q.H 8 (.ref j) = some (.list (ys.map PyData.int)) := toD8_ref _ _ h2 (toD_ints _ _ _)
  simp only [eqV, eqD, t1, t2, Option.bind_some, (sh_ints xs).shaped (by omega), (sh_ints ys).shaped (by omega), Bool.and_self, if_true, PyData.eqv, eqvAll_map PyData.int eqv_int]
/-! ### the heap -/
theorem pre_get {H H' : Hp} (p : H <+: H') {i : Nat} {o : O} (e : H[i]? = some o) : H'[i]? = some o := getElem?_prefix p e
theorem r_range1 (b : Int) (q : S) (h : -1000000 < b ∧ b < 1000000) : rangeV [.int b] q = .ok ⟨rangeL 0 b.toNat, fun _ => True⟩ q := by
  simp only [rangeV, if_pos h]; rfl
theorem fmod_range (a b : Int) (hb : 0 < b) : 0 ≤ a.fmod b ∧ a.fmod b < b := ⟨Int.fmod_nonneg_of_pos a hb, Int.fmod_lt_of_pos a hb⟩

/-! ### one statement after the other -/
noncomputable def Nx (m : Cm Fl) (q : S) (P : S → Prop) : Prop := ∃ q', m q = .ok .next q' ∧ P q'
noncomputable def Rt (m : Cm Fl) (q : S) (P : V → Hp → Prop) : Prop := ∃ v q', m q = .ok (.ret v) q' ∧ P v q'.H
section
variable {m m' : Cm Fl} {q : S} {P P' : S → Prop} {R : V → Hp → Prop}
theorem Nx.of {q' : S} (h : m q = .ok .next q') (hp : P q') : Nx m q P := ⟨q', h, hp⟩
theorem Rt.of {q' : S} {v : V} (h : m q = .ok (.ret v) q') (hp : R v q'.H) : Rt m q R := ⟨v, q', h, hp⟩
theorem seq_rt (h : Nx m q P) (k : ∀ q', P q' → Rt m' q' R) : Rt (seqV m m') q R := by
  obtain ⟨q1, h1, p1⟩ := h
  obtain ⟨v, q2, h2, p2⟩ := k q1 p1
  exact ⟨v, q2, by rw [r_seq, h1]; exact h2, p2⟩
theorem seq_rt0 (h : Rt m q R) : Rt (seqV m m') q R := by
  obtain ⟨v, q1, h1, p1⟩ := h
  exact ⟨v, q1, by rw [r_seq, h1], p1⟩
theorem seq_at {q' : S} {r : Res S Fl} (h : m q = .ok .next q') (k : m' q' = r) : seqV m m' q = r := by rw [r_seq, h]; exact k
theorem Rt.fn {ps : List String} {vs : List V} {H : Hp} (hl : vs.length = ps.length) (h : Rt m ⟨initL ps vs, H⟩ R) : ∃ v H', fnV ps m vs H = .ok v H' ∧ R v H' := by
  obtain ⟨v, q', h1, h2⟩ := h
  exact ⟨v, q'.H, by rw [r_fn, if_pos hl, h1], h2⟩
theorem Nx.fn {ps : List String} {vs : List V} {H : Hp} {P : S → Prop} (hl : vs.length = ps.length) (h : Nx m ⟨initL ps vs, H⟩ P) : ∃ q', fnV ps m vs H = .ok .none q'.H ∧ P q' := by
  obtain ⟨q', h1, h2⟩ := h
  exact ⟨q', by rw [r_fn, if_pos hl, h1], h2⟩
end

section
variable {m : Cm Fl} {ps : List String} {vs : List V} {H : Hp} {q : S} {v : V} {c : String}
theorem fn_next (hl : vs.length = ps.length) (h : m ⟨initL ps vs, H⟩ = .ok .next q) : fnV ps m vs H = .ok .none q.H := by rw [r_fn, if_pos hl, h]
theorem fn_ret (hl : vs.length = ps.length) (h : m ⟨initL ps vs, H⟩ = .ok (.ret v) q) : fnV ps m vs H = .ok v q.H := by rw [r_fn, if_pos hl, h]
theorem fn_exc (hl : vs.length = ps.length) (h : m ⟨initL ps vs, H⟩ = .exc c q) : fnV ps m vs H = .exc c q.H := by rw [r_fn, if_pos hl, h]
theorem seq_ret {m m' : Cm Fl} {q q' : S} {v : V} (h : m q = .ok (.ret v) q') : seqV m m' q = .ok (.ret v) q' := by rw [r_seq, h]
theorem seq_exc {m m' : Cm Fl} {q q' : S} {c : String} (h : m q = .exc c q') : seqV m m' q = .exc c q' := by rw [r_seq, h]
end
end Mine

set_option Elab.async false
set_option linter.unusedVariables false
set_option maxRecDepth 100000
namespace Mine
open PySem PySem.W PyProof.Rows

/-! ### isinstance on an exception -/
section
variable {prog : Program} {w : World} {A : Around} {E : Value → Shared → Prop} {h : Heap} {g : Array GenState} {d : Drawn} {t : Nat} {os : OsState} {a C : Addr} {o : Obj} {K : Frag}

noncomputable def xAttr (K : Frag) (C : Addr) : Bool := (findIn K (.ref C) "__getattribute__" == some (some (.builtin "BaseException.__getattribute__"))) && (findIn K (.ref C) "__getattr__" == some none) && (findIn K (.ref C) "__class__" == some (some (.builtin "object.__class__"))) &&
  (subIn K (.ref C) (.type "BaseException") == some true) && (subIn K (.ref C) (.type "object") == some true)

theorem xcls_get {R : Result → Shared → Prop} (X : K.In h) (hx : h.get? a = some o) (hc : o.cls = .ref C) (hs : subIn K (.ref C) (.type "object") = some true) (hq : R (.ok (.ret (.ref C))) ⟨h, g, d, t, os⟩) :
    codeAny (model prog w) A (.call (.builtin "getset_descriptor.__get__") ⟨[.builtin "object.__class__", .ref a, .ref C], []⟩) R ⟨h, g, d, t, os⟩ := by
  have LT : Looks (model prog w) h (typeOf (.ref a)) (.ref C) := by rw [← hc]; exact (Looks.ld hx).andThen .now
  have hT5 : (⟨h, g, d, t, os⟩ : Shared).TypeIs (.builtin "object.__class__") "getset_descriptor" := F.typeOf_object_class
  have LS : Looks (model prog w) h (isSubtype (.ref C) (.type (".".intercalate ("object.__class__".cutAt '.').dropLast))) true := by rw [F.owner_object_class]; exact looks_subIn X hs
  refine codeAny_call_builtin F.slot_gs_get.plain F.entry_gs_get (F.slot_gs_get.check _ _ _ _ _ _ _ _ hT5 (F.args_gs_get _ _ _) ?_)
  repeat (any_goals (first | assumption | lk | wp_step))
  refine ⟨Code.quiet_builtin _ (by decide +kernel), codeAny_builtin F.entry_object_class ?_⟩
  repeat (any_goals (first | assumption | lk | wp_step))

theorem xcls_entry {tk : Tok} {Q : PySem.Fin → Shared → Prop} (X : K.In h) (hx : h.get? a = some o) (hc : o.cls = .ref C) (h3 : findIn K (.ref C) "__class__" = some (some (.builtin "object.__class__"))) (hs : subIn K (.ref C) (.type "object") = some true)
    (hq : Q (.done (.ret (.ref C))) ⟨h, g, d, t, os⟩) : wpAny (model prog w) A (Builtin.«object.__getattribute__» ⟨[.ref a, .str "__class__" tk], []⟩) Q E ⟨h, g, d, t, os⟩ := by
  have LT : Looks (model prog w) h (typeOf (.ref a)) (.ref C) := by rw [← hc]; exact (Looks.ld hx).andThen .now
  have L3 : Looks (model prog w) h (typeLookup (.ref C) "__class__") (some (.builtin "object.__class__")) := looks_findIn X h3
  have hT5 : (⟨h, g, d, t, os⟩ : Shared).TypeIs (.builtin "object.__class__") "getset_descriptor" := F.typeOf_object_class
  have f5 := F.typeOf_object_class
  have f6 := F.slot_gs_get.lookup
  have f7 := F.slot_gs_set.lookup
  repeat (any_goals (first | assumption | with_reducible refine Looks.at LT ?_ | with_reducible refine Looks.at L3 ?_ | wp_step))
  refine xcls_get X hx hc hs ?_
  repeat (any_goals (first | assumption | wp_step))

theorem xcls_check {M : Model} {nameV : Value} {Q : Unit → Shared → Prop} (X : K.In h) (hx : h.get? a = some o) (hc : o.cls = .ref C) (hs : subIn K (.ref C) (.type "BaseException") = some true) (hq : Q () ⟨h, g, d, t, os⟩) :
    wpAny M A (checkBuiltinCall "BaseException.__getattribute__" ⟨[.ref a, nameV], []⟩) Q E ⟨h, g, d, t, os⟩ := by
  have hk : builtinKind "BaseException.__getattribute__" = some .slot := by decide +kernel
  have hsplit : splitId "BaseException.__getattribute__" = some ("BaseException", "__getattribute__") := by decide +kernel
  have LT : Looks M h (typeOf (.ref a)) (.ref C) := by rw [← hc]; exact (Looks.ld hx).andThen .now
  have LS : Looks M h (isSubtype (.ref C) (.type "BaseException")) true := looks_subIn X hs
  have LI : Looks M h (isInstance (.ref a) (.type "BaseException")) true := LT.andThen LS
  have ha := F.args_bexc_ga (.ref a) nameV
  simp only [checkBuiltinCall, hk, hsplit]
  refine wpAny_bind (LI.at ?_)
  repeat (first | exact hq | wp_step)

theorem xcls_call {tk : Tok} {R : Result → Shared → Prop} (X : K.In h) (hx : h.get? a = some o) (hc : o.cls = .ref C) (hz : xAttr K C = true) (hq : R (.ok (.ret (.ref C))) ⟨h, g, d, t, os⟩) :
    codeAny (model prog w) A (.call (.builtin "BaseException.__getattribute__") ⟨[.ref a, .str "__class__" tk], []⟩) R ⟨h, g, d, t, os⟩ := by
  unfold xAttr at hz
  simp only [Bool.and_eq_true, beq_iff_eq] at hz
  obtain ⟨⟨⟨⟨z1, z2⟩, z3⟩, z4⟩, z5⟩ := hz
  exact codeAny_call_builtin F.excAttr_ValueError.ga.plain F.entry_bexc_ga (xcls_check X hx hc z4 (xcls_entry X hx hc z3 z5 hq))

theorem xcls_by {tk : Tok} {Q : Value → Shared → Prop} (X : K.In h) (hx : h.get? a = some o) (hc : o.cls = .ref C) (hz : xAttr K C = true) (hq : Q (.ref C) ⟨h, g, d, t, os⟩) :
    wpAny (model prog w) A (getAttrBy (.ref a) (.str "__class__" tk) false) Q E ⟨h, g, d, t, os⟩ := by
  have hz' := hz
  unfold xAttr at hz'
  simp only [Bool.and_eq_true, beq_iff_eq] at hz'
  obtain ⟨⟨⟨⟨z1, z2⟩, z3⟩, z4⟩, z5⟩ := hz'
  have LT : Looks (model prog w) h (typeOf (.ref a)) (.ref C) := by rw [← hc]; exact (Looks.ld hx).andThen .now
  have L1 : Looks (model prog w) h (typeLookup (.ref C) "__getattribute__") (some (.builtin "BaseException.__getattribute__")) := looks_findIn X z1
  have L2 : Looks (model prog w) h (typeLookup (.ref C) "__getattr__") none := looks_findIn X z2
  have f3 := F.excAttr_ValueError.ga.bind (.ref a)
  repeat (any_goals (first | assumption | with_reducible refine Looks.at LT ?_ | with_reducible refine Looks.at L1 ?_ | with_reducible refine Looks.at L2 ?_ | wp_step))
  refine xcls_call X hx hc hz ?_
  repeat (any_goals (first | assumption | wp_step))

theorem xcls_attr {s : Shared} {Q : Option Value → Shared → Prop} (X : K.In s.heap) (hx : s.heap.get? a = some o) (hc : o.cls = .ref C) (hz : xAttr K C = true) (hq : Q (some (.ref C)) { s with toks := s.toks + 1 }) : wpAny (model prog w) A (getAttr? (.ref a) "__class__") Q E s := by
  obtain ⟨h, g, d, t, os⟩ := s
  unfold getAttr? getAttrBy?
  repeat (any_goals (first | assumption | with_reducible apply xcls_by X hx hc hz | wp_step))

theorem kitx_exc (hz : xAttr K C = true) (hcl : ∃ c d cd sl, K.lookup C = some ⟨c, d, .cls cd, sl⟩) : KitX K (.ref a) (.ref C) (fun h => ∃ o, h.get? a = some o ∧ o.cls = .ref C) where
  ty := fun M h X p => by obtain ⟨o, h1, h2⟩ := p; rw [← h2]; exact (Looks.ld h1).andThen .now
  it := fun _ _ X _ => by
    obtain ⟨c, d, cd, sl, ho⟩ := hcl
    intro A' Q' E' s' k q
    unfold isType loadHead
    exact wpAny_bind (wpAny_loadPart (k _ _ (X _ _ ho)) (wpAny_pure q))
  ne := fun h tp dd its n sl X htp => by
    obtain ⟨c, d, cd, sl', ho⟩ := hcl
    refine Bool.eq_false_iff.mpr fun q => ?_
    have e : C = tp := Value.ref.inj (beq_iff_eq.mp q)
    subst e
    have z := (X _ _ ho).symm.trans htp
    cases z
  ca := fun X p k => by obtain ⟨o, h1, h2⟩ := p; exact xcls_attr X h1 h2 hz k
end

noncomputable def isxV (L : List (String × Bool)) (v : V) : Cm V := fun q => match v with
  | .exc c => (match L.lookup c with | some b => .ok (.bool b) q | none => .stuck)
  | _ => .stuck
noncomputable def isxTab (K : Frag) (X : List (String × Addr)) (cv : Value) (L : List (String × Bool)) : Bool := L.all fun p => match X.lookup p.1 with
  | some C => (kitOne K (.ref C) cv == some p.2) && xAttr K C && (match K.lookup C with | some ⟨_, _, .cls _, _⟩ => true | _ => false)
  | none => false
section
variable {G : Cx} {hq : Bool} {k : Nat} {env : Env} {A : Around} {ι ι' : List Addr} {q q' : S} {s s' : Shared} {H H' : Hp} {h : Heap}
theorem P_isx (C : CxOk G) {X : List (String × Addr)} (hX : ∀ c, G.xcl c = X.lookup c) {L : List (String × Bool)} {tv : Value} (hT : isxTab G.K X tv L = true) {v : V} {cv : Value} (R : Rel G A env ι q s) (hv : VRel G ι s.heap v cv) :
    Sat G A env ι s (isxV L v q) (VRel G) (wpT G A (call (.builtin "isinstance") [cv, tv])) := by
  unfold isxV
  split
  · rename_i c
    split
    · rename_i b e
      obtain ⟨x, D, o, h1, rfl, h2, h3, vs, h4⟩ := hv
      have hm := (List.all_eq_true.mp hT) (c, b) (mem_of_lookup e)
      rw [hX] at h1
      simp only [h1, Bool.and_eq_true, beq_iff_eq] at hm
      obtain ⟨⟨m1, m2⟩, m3⟩ := hm
      have hcl : ∃ c d cd sl, G.K.lookup D = some ⟨c, d, .cls cd, sl⟩ := by
        split at m3
        · rename_i a1 a2 a3 a4 hl; exact ⟨_, _, _, _, hl⟩
        · cases m3
      exact fun Q E hQ => kia_one (kitx_exc (a := x) m2 hcl) (C.X.keeps R.st.keep) ⟨o, h2, h3⟩ m1 (by intro q; cases q) fun tk => hQ ι _ _ (Post.toks R tk) (vBool _)
    · trivial
  · trivial
theorem E_isx (C : CxOk G) {X : List (String × Addr)} (hX : ∀ c, G.xcl c = X.lookup c) {L : List (String × Bool)} {tv : Value} {e t : Expr} {p pos : Pos} {m : Cm V} (hT : isxTab G.K X tv L = true)
    (hx : env.kindOf (Str.ofString "isinstance") = some .globalImplicit) (hv : nsIn G.K mainGlobals (Str.ofString "isinstance") = some none)
    (hld : ∀ A ι q s Q E, Rel G A env ι q s → Q tv s → wpAny G.M A (eval t env) Q E s) (h1 : Ev G hq k env e m) (he : starEach [e, t] env = (false, eval e env) :: starEach [t] env) (he2 : starEach [t] env = (false, eval t env) :: starEach [] env)
    (hp : (backTo pos (starEach [e, t] env)).any (·.1) = false) :
    Ev G hq k env (.Call (.Name (Str.ofString "isinstance") p) [e, t] [] pos) (m.bnd fun v => isxV L v) := by
  intro A ι q s ha R
  refine (Sat.bnd (T' := fun v Q E s₁ => wpAny G.M A (eval t env) (fun w s₂ => wpAny G.M A (call (.builtin "isinstance") [v, w]) Q E s₂) E s₁) (h1 A ι q s ha R) fun a q' ι' b s' _ P hv' =>
    (P_isx C hX hT P.rel hv').imp fun Q E z => hld A ι' q' s' _ _ P.rel z).imp fun Q E y => ?_
  show wpAny G.M A (do callWith pos (← eval (.Name (Str.ofString "isinstance") p) env) [] (backTo pos (starEach [e, t] env)) []) Q E s
  refine wpAny_bind (blt_load C R hx hv (v := .builtin "isinstance") (by decide +kernel) (by decide) (by decide) ?_)
  refine Calls.callWith_builtin hp (evalArgs_any hp (wpAny_items_cons (wpAny_mono y (fun v s₁ z => wpAny_items_cons (wpAny_mono z (fun w s₂ u => wpAny_items_nil u) fun _ _ u => u) he2) fun _ _ z => z) he))

/-! ### list(range(..)) -/
noncomputable def rangeLV : List V → Cm V
  | [.int a, .int b] => fun q => if (0 ≤ a ∧ a ≤ b) ∧ b < 1000 then .ok (.ref q.H.length) { q with H := q.H ++ [.list (rangeL a (b - a).toNat)] } else .stuck
  | _ => .stk
theorem vrels_range {a : Int} : ∀ {n : Nat} {vs : List Value} (f : Nat → Int), (∀ i, f i = a + i) → vs.length = n → (∀ (i : Nat) (v : Value), vs[i]? = some v → ∃ t, v = .int (a + i) t) → VRels G ι h (rangeL a n) vs := by
  intro n
  induction n generalizing a with
  | zero => intro vs f _ hl _; rw [List.length_eq_zero_iff.mp hl]; rfl
  | succ n ih =>
    intro vs f hf hl hv
    cases vs with
    | nil => simp at hl
    | cons v vs =>
      obtain ⟨t, rfl⟩ := hv 0 v rfl
      refine ⟨_, vs, rfl, ⟨t, by simp⟩, ih (a := a + 1) (fun i => a + 1 + i) (fun _ => rfl) (by simpa using hl) fun i w hw => ?_⟩
      obtain ⟨t', e⟩ := hv (i + 1) w (by simpa using hw)
      exact ⟨t', by rw [e]; congr 1; push_cast; omega⟩
theorem P_rangeL (hh : A.handled = none) (R : Rel G A env ι q s) {vs : List V} {cvs : List Value} (hv : VRels G ι s.heap vs cvs) :
    Sat G A env ι s (rangeLV vs q) (VRel G) (fun Q E s => wpAny G.M A (call (.type "range") cvs) (fun x s₁ => wpAny G.M A (call (.type "list") [x]) Q E s₁) E s) := by
  unfold rangeLV
  split
  · rename_i a b
    obtain ⟨cv, _, rfl, ⟨t, rfl⟩, cv2, _, rfl, ⟨t2, rfl⟩, e⟩ := hv; rw [show _ = [] from e]
    split
    · rename_i hb
      intro Q E hQ
      have hsz : Builtin.Range.rangeSize a b 1 = (((b - a).toNat : Nat) : Int) := by
        unfold Builtin.Range.rangeSize
        simp
        split <;> omega
      have ft : ∀ z : Int, -1000000 < z → z < 2000000 → Builtin.Range.rangeFitsLong z = true := fun z h1 h2 => by unfold Builtin.Range.rangeFitsLong; simp; omega
      have hsm : Builtin.Range.small a b 1 = true := by
        unfold Builtin.Range.small
        simp [hsz, ft a (by omega) (by omega), ft b (by omega) (by omega), ft 1 (by omega) (by omega), ft (max (b - a) 0) (by omega) (by omega)]
      have st : s.heap.StaysIn (s.heap.push { cls := .type "range", data := .fields #[.int a t, .int b t2, .int 1 s.toks] }) := fun c o e => Heap.get?_push_of_some _ e
      refine call_range_2 (call_list_range hh (Heap.get?_push_size _ rfl) hsm hsz (by omega) fun h' tk acc' c' hk hS hI => ?_)
      have sz : (s.heap.push { cls := .type "range", data := .fields #[.int a t, .int b t2, .int 1 s.toks] }).objs.size = s.heap.objs.size + 1 := Heap.size_push ..
      rw [sz] at hS ⊢
      have nw : s.heap.get? (s.heap.objs.size + 1) = none := Heap.get?_none_of_le (by omega)
      refine hQ _ _ _ (Post.alloc (tk := tk) R (fun b o e => hk b o (st b o e)) nw ⟨acc'.toList, ⟨c', by simpa using hS⟩, vrels_range (fun i => a + i) (fun _ => rfl) (by simpa using hI.1) fun i v hv => ?_⟩) (vRef_new R.st _)
      obtain ⟨t', e⟩ := hI.2 i v (by simpa using hv)
      exact ⟨t', by rw [e]; simp⟩
    · trivial
  · trivial
theorem E_rangeL (C : CxOk G) (hh : hq = true) {es : List Expr} {p1 p2 ipos pos : Pos} {m : Cm (List V)} (hx1 : env.kindOf (Str.ofString "list") = some .globalImplicit) (hv1 : nsIn G.K mainGlobals (Str.ofString "list") = some none)
    (hx2 : env.kindOf (Str.ofString "range") = some .globalImplicit) (hv2 : nsIn G.K mainGlobals (Str.ofString "range") = some none) (h1 : EvL G hq k env es m) (hp2 : (backTo ipos (starEach es env)).any (·.1) = false)
    (he : starEach [Expr.Call (.Name (Str.ofString "range") p2) es [] ipos] env = (false, eval (.Call (.Name (Str.ofString "range") p2) es [] ipos) env) :: starEach [] env)
    (hp : (backTo pos (starEach [Expr.Call (.Name (Str.ofString "range") p2) es [] ipos] env)).any (·.1) = false) :
    Ev G hq k env (.Call (.Name (Str.ofString "list") p1) [.Call (.Name (Str.ofString "range") p2) es [] ipos] [] pos) (m.bnd fun vs => rangeLV vs) := by
  intro A ι q s ha R
  refine (Sat.bnd (T' := fun vs Q E s₁ => wpAny G.M A (call (.type "range") vs) (fun x s₁ => wpAny G.M A (call (.type "list") [x]) Q E s₁) E s₁) (h1 ipos A ι q s ha R) fun a q' ι' b s' _ P hv => P_rangeL (ha.hd hh) P.rel hv).imp fun Q E y => ?_
  show wpAny G.M A (do callWith pos (← eval (.Name (Str.ofString "list") p1) env) [] (backTo pos (starEach [Expr.Call (.Name (Str.ofString "range") p2) es [] ipos] env)) []) Q E s
  refine wpAny_bind (blt_load C R hx1 hv1 (v := .type "list") (by decide +kernel) (by decide) (by decide) ?_)
  refine callsBy_type _ _ _ _ _ _ _ _ hp (evalArgs_any hp (wpAny_items_cons ?_ he))
  show wpAny G.M A (do callWith ipos (← eval (.Name (Str.ofString "range") p2) env) [] (backTo ipos (starEach es env)) []) _ E s
  refine wpAny_bind (blt_load C R hx2 hv2 (v := .type "range") (by decide +kernel) (by decide) (by decide) ?_)
  refine callsBy_type _ _ _ _ _ _ _ _ hp2 (evalArgs_any hp2 (wpAny_mono y (fun vs s₁ z => wpAny_mono z (fun x s₂ u => wpAny_items_nil u) fun _ _ u => u) fun _ _ z => z))
end
end Mine

open PySem PySem.W PyProof.Rows
set_option Elab.async false
set_option maxRecDepth 100000
set_option maxHeartbeats 8000000
open_top hd02 for PySem.Challenge.rw_uf060003_02

set_option Elab.async false
set_option linter.unusedVariables false
set_option maxRecDepth 100000
namespace Mine
open PySem PySem.W PyProof.Rows
section
variable {P : Params}
theorem ns_BadPlan : nsIn (hd02.heap_39 P) mainGlobals (Str.ofString "BadPlan") = some (some (.ref 44)) := by kernel_rfl
theorem ns_BadWish : nsIn (hd02.heap_39 P) mainGlobals (Str.ofString "BadWish") = some (some (.ref 56)) := by kernel_rfl
theorem ns_MOST_LENGTH : nsIn (hd02.heap_39 P) mainGlobals (Str.ofString "MOST_LENGTH") = some (some (.int 60 330)) := by kernel_rfl
theorem ns_MOST_PAGES : nsIn (hd02.heap_39 P) mainGlobals (Str.ofString "MOST_PAGES") = some (some (.int 40 328)) := by kernel_rfl
theorem ns_MOST_SIZES : nsIn (hd02.heap_39 P) mainGlobals (Str.ofString "MOST_SIZES") = some (some (.int 8 332)) := by kernel_rfl
theorem ns_NoRoom : nsIn (hd02.heap_39 P) mainGlobals (Str.ofString "NoRoom") = some (some (.ref 92)) := by kernel_rfl
theorem ns_NoSize : nsIn (hd02.heap_39 P) mainGlobals (Str.ofString "NoSize") = some (some (.ref 80)) := by kernel_rfl
theorem ns_NotOut : nsIn (hd02.heap_39 P) mainGlobals (Str.ofString "NotOut") = some (some (.ref 104)) := by kernel_rfl
theorem ns_OutOfThing : nsIn (hd02.heap_39 P) mainGlobals (Str.ofString "OutOfThing") = some (some (.ref 116)) := by kernel_rfl
theorem ns_Plan : nsIn (hd02.heap_39 P) mainGlobals (Str.ofString "Plan") = some (some (.ref 163)) := by kernel_rfl
theorem ns_RoomError : nsIn (hd02.heap_39 P) mainGlobals (Str.ofString "RoomError") = some (some (.ref 31)) := by kernel_rfl
theorem ns_TooLarge : nsIn (hd02.heap_39 P) mainGlobals (Str.ofString "TooLarge") = some (some (.ref 68)) := by kernel_rfl
theorem ns_ValueError : nsIn (hd02.heap_39 P) mainGlobals (Str.ofString "ValueError") = some none := by kernel_rfl
theorem ns__law_bad_sizes : nsIn (hd02.heap_39 P) mainGlobals (Str.ofString "_law_bad_sizes") = some (some (.ref 202)) := by kernel_rfl
theorem ns__law_cell_at : nsIn (hd02.heap_39 P) mainGlobals (Str.ofString "_law_cell_at") = some (some (.ref 174)) := by kernel_rfl
theorem ns__law_refused : nsIn (hd02.heap_39 P) mainGlobals (Str.ofString "_law_refused") = some (some (.ref 195)) := by kernel_rfl
theorem ns__law_sizes_by : nsIn (hd02.heap_39 P) mainGlobals (Str.ofString "_law_sizes_by") = some (some (.ref 188)) := by kernel_rfl
theorem ns__law_whole : nsIn (hd02.heap_39 P) mainGlobals (Str.ofString "_law_whole") = some (some (.ref 181)) := by kernel_rfl
theorem ns__law_wrong : nsIn (hd02.heap_39 P) mainGlobals (Str.ofString "_law_wrong") = some (some (.ref 209)) := by kernel_rfl
theorem ns_between : nsIn (hd02.heap_39 P) mainGlobals (Str.ofString "between") = some (some (.ref 132)) := by kernel_rfl
theorem ns_bool : nsIn (hd02.heap_39 P) mainGlobals (Str.ofString "bool") = some none := by kernel_rfl
theorem ns_int : nsIn (hd02.heap_39 P) mainGlobals (Str.ofString "int") = some none := by kernel_rfl
theorem ns_isinstance : nsIn (hd02.heap_39 P) mainGlobals (Str.ofString "isinstance") = some none := by kernel_rfl
theorem ns_len : nsIn (hd02.heap_39 P) mainGlobals (Str.ofString "len") = some none := by kernel_rfl
theorem ns_list : nsIn (hd02.heap_39 P) mainGlobals (Str.ofString "list") = some none := by kernel_rfl
theorem ns_range : nsIn (hd02.heap_39 P) mainGlobals (Str.ofString "range") = some none := by kernel_rfl
theorem ns_tuple : nsIn (hd02.heap_39 P) mainGlobals (Str.ofString "tuple") = some none := by kernel_rfl
theorem ns_whole : nsIn (hd02.heap_39 P) mainGlobals (Str.ofString "whole") = some (some (.ref 125)) := by kernel_rfl
theorem isi_int : isiTab (hd02.heap_39 P) "int" = true := by kernel_rfl
theorem isi_bool : isiTab (hd02.heap_39 P) "bool" = true := by kernel_rfl
theorem isi_list : isiTab (hd02.heap_39 P) "list" = true := by kernel_rfl
theorem xok_BadPlan : xclOk (hd02.heap_39 P) 44 = true := by kernel_rfl
theorem keep_Plan : keepIn (hd02.heap_39 P) (.ref 163) = true := by kernel_rfl
theorem makes_Plan : makesIn (hd02.heap_39 P) 163 = true := by kernel_rfl
theorem init_Plan : findIn (hd02.heap_39 P) (.ref 163) "__init__" = some (some (.ref 146)) := by kernel_rfl
end
noncomputable def clsL : List (String × Addr) := [("Plan", 163)]
noncomputable def xclL : List (String × Addr) := [("RoomError", 31), ("BadPlan", 44), ("BadWish", 56), ("TooLarge", 68), ("NoSize", 80), ("NoRoom", 92), ("NotOut", 104), ("OutOfThing", 116)]
theorem isx_BadWish {P : Params} : isxTab (hd02.heap_39 P) xclL (.ref 56) [("RoomError", false), ("BadPlan", false), ("BadWish", true), ("TooLarge", false), ("NoSize", false), ("NoRoom", false), ("NotOut", false), ("OutOfThing", false)] = true := by kernel_rfl
theorem isx_TooLarge {P : Params} : isxTab (hd02.heap_39 P) xclL (.ref 68) [("RoomError", false), ("BadPlan", false), ("BadWish", false), ("TooLarge", true), ("NoSize", false), ("NoRoom", false), ("NotOut", false), ("OutOfThing", false)] = true := by kernel_rfl
theorem isx_NoRoom {P : Params} : isxTab (hd02.heap_39 P) xclL (.ref 92) [("RoomError", false), ("BadPlan", false), ("BadWish", false), ("TooLarge", false), ("NoSize", false), ("NoRoom", true), ("NotOut", false), ("OutOfThing", false)] = true := by kernel_rfl
theorem isx_NotOut {P : Params} : isxTab (hd02.heap_39 P) xclL (.ref 104) [("RoomError", false), ("BadPlan", false), ("BadWish", false), ("TooLarge", false), ("NoSize", false), ("NoRoom", false), ("NotOut", true), ("OutOfThing", false)] = true := by kernel_rfl
theorem isx_OutOfThing {P : Params} : isxTab (hd02.heap_39 P) xclL (.ref 116) [("RoomError", false), ("BadPlan", false), ("BadWish", false), ("TooLarge", false), ("NoSize", false), ("NoRoom", false), ("NotOut", false), ("OutOfThing", true)] = true := by kernel_rfl
theorem isx_NoSize {P : Params} : isxTab (hd02.heap_39 P) xclL (.ref 80) [("RoomError", false), ("BadPlan", false), ("BadWish", false), ("TooLarge", false), ("NoSize", true), ("NoRoom", false), ("NotOut", false), ("OutOfThing", false)] = true := by kernel_rfl
theorem isx_ValueError {P : Params} : isxTab (hd02.heap_39 P) xclL (.type "ValueError") [("RoomError", true), ("BadPlan", true), ("BadWish", true), ("TooLarge", true), ("NoSize", true), ("NoRoom", true), ("NotOut", true), ("OutOfThing", true)] = true := by kernel_rfl
theorem isx_BadPlan {P : Params} : isxTab (hd02.heap_39 P) xclL (.ref 44) [("RoomError", false), ("BadPlan", true), ("BadWish", false), ("TooLarge", false), ("NoSize", false), ("NoRoom", false), ("NotOut", false), ("OutOfThing", false)] = true := by kernel_rfl
noncomputable def Gx (w : World) (hB : Heap) (os : OsState) (mg mb : Str → Option Value) (sa : Addr) (sv : List Value) (sn : List Int) : Cx := { prog := PySem.Challenge.rw_uf060003_02.row.prog, w := w, K := hd02.heap_39 w.params, hB := hB, os := os, mg := mg, mb := mb, cls := fun c => clsL.lookup c, xcl := fun c => xclL.lookup c, sa := sa, sv := sv, sn := sn }
section
variable {w : World} {hB : Heap} {os : OsState} {mg mb : Str → Option Value} {sa : Addr} {sv : List Value} {sn : List Int}
theorem hasF_length : HasF (Gx w hB os mg mb sa sv sn) "length" := hasF_of (L := clsL) (fun _ => rfl) (by kernel_rfl)
theorem hasF_pages : HasF (Gx w hB os mg mb sa sv sn) "pages" := hasF_of (L := clsL) (fun _ => rfl) (by kernel_rfl)
theorem hasF_sizes : HasF (Gx w hB os mg mb sa sv sn) "sizes" := hasF_of (L := clsL) (fun _ => rfl) (by kernel_rfl)
theorem hasS_length : HasS (Gx w hB os mg mb sa sv sn) "length" := hasS_of (L := clsL) (fun _ => rfl) (by kernel_rfl)
theorem hasS_pages : HasS (Gx w hB os mg mb sa sv sn) "pages" := hasS_of (L := clsL) (fun _ => rfl) (by kernel_rfl)
theorem hasS_sizes : HasS (Gx w hB os mg mb sa sv sn) "sizes" := hasS_of (L := clsL) (fun _ => rfl) (by kernel_rfl)
noncomputable def t_whole_1 (sn : List Int) : Cm Fl := ((((getV "number").bnd fun v2 => isiV sn "int" v2).bnd fun v7 => (truthV v7).bnd fun b8 => if b8 then (((getV "number").bnd fun v4 => isiV sn "bool" v4).bnd fun v5 => (truthV v5).bnd fun b6 => Cm.pur (V.bool (!b6))) else Cm.pur v7).bnd fun v9 => Cm.pur (Fl.ret v9))
noncomputable def m_whole (sn : List Int) : Cm Fl := (t_whole_1 sn)
noncomputable def f_whole (sn : List Int) : Fc := fnV ["number"] (m_whole sn)
theorem s_whole (C : CxOk (Gx w hB os mg mb sa sv sn)) : FnOk (Gx w hB os mg mb sa sv sn) true 1 125 (f_whole sn) :=
  FnOk.of C (k := 0) ⟨⟨_, _, _, rfl⟩, by kernel_rfl, rfl, rfl, rfl, rfl, (by intro vals h; obtain ⟨a0, rfl⟩ := len1 h; kernel_rfl), by decide +kernel, by decide, by decide +kernel, rfl, rfl, rfl⟩ fun L =>
  (Xs_one (X_ret (E_boolop (EB_and (E_isi C isi_int (by kernel_rfl) ns_isinstance (by kernel_rfl) ns_int (by decide +kernel) (by decide) (by decide) (E_loc (by kernel_rfl) (by kernel_rfl)) (by kernel_rfl) (by kernel_rfl)) (EB_one (E_not (E_isi C isi_bool (by kernel_rfl) ns_isinstance (by kernel_rfl) ns_bool (by decide +kernel) (by decide) (by decide) (E_loc (by kernel_rfl) (by kernel_rfl)) (by kernel_rfl) (by kernel_rfl))))))))
noncomputable def t_between_1 (sn : List Int) : Cm Fl := (((((getV "number").bnd fun v2 => (Cm.pur ([] : List V)).bnd fun vs3 => Cm.pur (v2 :: vs3)).bnd fun vs1 => callF (f_whole sn) vs1).bnd fun v9 => (truthV v9).bnd fun b10 => if b10 then ((getV "least").bnd fun v4 => (getV "number").bnd fun v5 => (cmpV .LtE v4 v5).bnd fun x6 => if x6 then (getV "most").bnd fun v7 => (cmpV .LtE v5 v7).bnd fun x8 => Cm.pur (V.bool x8) else Cm.pur (V.bool false)) else Cm.pur v9).bnd fun v11 => Cm.pur (Fl.ret v11))
noncomputable def m_between (sn : List Int) : Cm Fl := (t_between_1 sn)
noncomputable def f_between (sn : List Int) : Fc := fnV ["number", "least", "most"] (m_between sn)
theorem s_between (C : CxOk (Gx w hB os mg mb sa sv sn)) : FnOk (Gx w hB os mg mb sa sv sn) true 2 132 (f_between sn) :=
  FnOk.of C (k := 1) ⟨⟨_, _, _, rfl⟩, by kernel_rfl, rfl, rfl, rfl, rfl, (by intro vals h; obtain ⟨a0, a1, a2, rfl⟩ := len3 h; kernel_rfl), by decide +kernel, by decide, by decide +kernel, rfl, rfl, rfl⟩ fun L =>
  (Xs_one (X_ret (E_boolop (EB_and (E_call C (by kernel_rfl) ns_whole (by kernel_rfl) (by kernel_rfl) (s_whole C) (by decide) (EL_cons (E_loc (by kernel_rfl) (by kernel_rfl)) EL_nil (by kernel_rfl)) (by kernel_rfl)) (EB_one (E_cmp2 C (E_loc (by kernel_rfl) (by kernel_rfl)) (E_loc (by kernel_rfl) (by kernel_rfl)) (E_loc (by kernel_rfl) (by kernel_rfl)) (by kernel_rfl)))))))
noncomputable def t_Plan_init_1 (sn : List Int) : Cm Fl := (((((((getV "pages").bnd fun v6 => ((Cm.pur (V.int 1)).bnd fun v4 => ((Cm.pur (V.int 40)).bnd fun v2 => (Cm.pur ([] : List V)).bnd fun vs3 => Cm.pur (v2 :: vs3)).bnd fun vs5 => Cm.pur (v4 :: vs5)).bnd fun vs7 => Cm.pur (v6 :: vs7)).bnd fun vs1 => callF (f_between sn) vs1).bnd fun v8 => truthV v8).bnd fun b9 => Cm.pur (!b9)).bnd fun b20 => if b20 then Cm.pur true else ((((((getV "length").bnd fun v15 => ((Cm.pur (V.int 1)).bnd fun v13 => ((Cm.pur (V.int 60)).bnd fun v11 => (Cm.pur ([] : List V)).bnd fun vs12 => Cm.pur (v11 :: vs12)).bnd fun vs14 => Cm.pur (v13 :: vs14)).bnd fun vs16 => Cm.pur (v15 :: vs16)).bnd fun vs10 => callF (f_between sn) vs10).bnd fun v17 => truthV v17).bnd fun b18 => Cm.pur (!b18)).bnd fun b19 => if b19 then Cm.pur true else (Cm.pur false))).bnd fun b23 => if b23 then (((Cm.pur (V.str "pages or their length")).bnd fun v21 => (Cm.pur ([] : List V)).bnd fun vs22 => Cm.pur (v21 :: vs22)).bnd fun _ => raiseV "BadPlan") else (Cm.pur Fl.next))
noncomputable def t_Plan_init_2 (sn : List Int) : Cm Fl := ((((((getV "sizes").bnd fun v25 => isiV sn "list" v25).bnd fun v26 => truthV v26).bnd fun b27 => Cm.pur (!b27)).bnd fun b38 => if b38 then Cm.pur true else ((((Cm.pur (V.int 1)).bnd fun v31 => (((getV "sizes").bnd fun v29 => (Cm.pur ([] : List V)).bnd fun vs30 => Cm.pur (v29 :: vs30)).bnd fun vs28 => lenV sn vs28).bnd fun v32 => (cmpV .LtE v31 v32).bnd fun x33 => if x33 then (Cm.pur (V.int 8)).bnd fun v34 => (cmpV .LtE v32 v34).bnd fun x35 => Cm.pur x35 else Cm.pur false).bnd fun b36 => Cm.pur (!b36)).bnd fun b37 => if b37 then Cm.pur true else (Cm.pur false))).bnd fun b41 => if b41 then (((Cm.pur (V.str "a list of sizes")).bnd fun v39 => (Cm.pur ([] : List V)).bnd fun vs40 => Cm.pur (v39 :: vs40)).bnd fun _ => raiseV "BadPlan") else (Cm.pur Fl.next))
noncomputable def t_Plan_init_3 (sn : List Int) : Cm Fl := ((Cm.pur (V.int 0)).bnd fun v42 => (setV "last" v42).bnd fun _ => Cm.pur Fl.next)
noncomputable def b_Plan_init_1 (sn : List Int) : Cm Fl := (seqV ((((((getV "size").bnd fun v51 => (((getV "last").bnd fun v45 => (Cm.pur (V.int 1)).bnd fun v46 => addV v45 v46).bnd fun v49 => ((getV "length").bnd fun v47 => (Cm.pur ([] : List V)).bnd fun vs48 => Cm.pur (v47 :: vs48)).bnd fun vs50 => Cm.pur (v49 :: vs50)).bnd fun vs52 => Cm.pur (v51 :: vs52)).bnd fun vs44 => callF (f_between sn) vs44).bnd fun v53 => truthV v53).bnd fun b54 => Cm.pur (!b54)).bnd fun b57 => if b57 then (((Cm.pur (V.str "sizes rise up to the length")).bnd fun v55 => (Cm.pur ([] : List V)).bnd fun vs56 => Cm.pur (v55 :: vs56)).bnd fun _ => raiseV "BadPlan") else (Cm.pur Fl.next)) ((getV "size").bnd fun v58 => (setV "last" v58).bnd fun _ => Cm.pur Fl.next))
noncomputable def t_Plan_init_4 (sn : List Int) : Cm Fl := (((getV "sizes").bnd fun v43 => itOf sn v43).bnd fun it59 => forV it59.g (setV "size") (b_Plan_init_1 sn) it59.xs)
noncomputable def t_Plan_init_5 (sn : List Int) : Cm Fl := ((getV "pages").bnd fun v60 => (getV "self").bnd fun v61 => (setAttrV "pages" v60 v61).bnd fun _ => Cm.pur Fl.next)
noncomputable def t_Plan_init_6 (sn : List Int) : Cm Fl := ((getV "length").bnd fun v62 => (getV "self").bnd fun v63 => (setAttrV "length" v62 v63).bnd fun _ => Cm.pur Fl.next)
noncomputable def t_Plan_init_7 (sn : List Int) : Cm Fl := ((((getV "sizes").bnd fun v65 => (Cm.pur ([] : List V)).bnd fun vs66 => Cm.pur (v65 :: vs66)).bnd fun vs64 => listOfV sn vs64).bnd fun v67 => (getV "self").bnd fun v68 => (setAttrV "sizes" v67 v68).bnd fun _ => Cm.pur Fl.next)
noncomputable def m_Plan_init (sn : List Int) : Cm Fl := (seqV (t_Plan_init_1 sn) (seqV (t_Plan_init_2 sn) (seqV (t_Plan_init_3 sn) (seqV (t_Plan_init_4 sn) (seqV (t_Plan_init_5 sn) (seqV (t_Plan_init_6 sn) (t_Plan_init_7 sn)))))))
noncomputable def f_Plan_init (sn : List Int) : Fc := fnV ["self", "pages", "length", "sizes"] (m_Plan_init sn)
theorem s_Plan_init (C : CxOk (Gx w hB os mg mb sa sv sn)) : FnOk (Gx w hB os mg mb sa sv sn) true 3 146 (f_Plan_init sn) :=
  FnOk.of C (k := 2) ⟨⟨_, _, _, rfl⟩, by kernel_rfl, rfl, rfl, rfl, rfl, (by intro vals h; obtain ⟨a0, a1, a2, a3, rfl⟩ := len4 h; kernel_rfl), by decide +kernel, by decide, by decide +kernel, rfl, rfl, rfl⟩ fun L =>
  (Xs_cons (X_if (T_bool (TA_or (T_not (T_val (E_call C (by kernel_rfl) ns_between (by kernel_rfl) (by kernel_rfl) (s_between C) (by decide) (EL_cons (E_loc (by kernel_rfl) (by kernel_rfl)) (EL_cons E_int (EL_cons (E_gint C (by kernel_rfl) ns_MOST_PAGES (by kernel_rfl)) EL_nil (by kernel_rfl)) (by kernel_rfl)) (by kernel_rfl)) (by kernel_rfl)) rfl)) (TA_or (T_not (T_val (E_call C (by kernel_rfl) ns_between (by kernel_rfl) (by kernel_rfl) (s_between C) (by decide) (EL_cons (E_loc (by kernel_rfl) (by kernel_rfl)) (EL_cons E_int (EL_cons (E_gint C (by kernel_rfl) ns_MOST_LENGTH (by kernel_rfl)) EL_nil (by kernel_rfl)) (by kernel_rfl)) (by kernel_rfl)) (by kernel_rfl)) rfl)) TA_or0))) (Xs_one (X_raise C rfl (by kernel_rfl) ns_BadPlan (by kernel_rfl) xok_BadPlan (by kernel_rfl) (EL_cons E_str EL_nil (by kernel_rfl)) (by decide) (by kernel_rfl) (by intro q vs q' h; cases h; decide))) Xs_nil) (Xs_cons (X_if (T_bool (TA_or (T_not (T_val (E_isi C isi_list (by kernel_rfl) ns_isinstance (by kernel_rfl) ns_list (by decide +kernel) (by decide) (by decide) (E_loc (by kernel_rfl) (by kernel_rfl)) (by kernel_rfl) (by kernel_rfl)) rfl)) (TA_or (T_not (T_cmp2 C E_int (E_blt (bv := (.builtin "len")) C (by kernel_rfl) ns_len (by decide +kernel) (by decide) (by decide) (callsBy_builtin _) (EL_cons (E_loc (by kernel_rfl) (by kernel_rfl)) EL_nil (by kernel_rfl)) (by kernel_rfl) (fun A ι q s vs cvs ha R hv => P_len C R hv)) (E_gint C (by kernel_rfl) ns_MOST_SIZES (by kernel_rfl)) (by kernel_rfl))) TA_or0))) (Xs_one (X_raise C rfl (by kernel_rfl) ns_BadPlan (by kernel_rfl) xok_BadPlan (by kernel_rfl) (EL_cons E_str EL_nil (by kernel_rfl)) (by decide) (by kernel_rfl) (by intro q vs q' h; cases h; decide))) Xs_nil) (Xs_cons (X_assign (.inl (by kernel_rfl)) E_int rfl) (Xs_cons (X_for (I_list C rfl (.name _ _) (E_loc (by kernel_rfl) (by kernel_rfl))) (A_name (.inl (by kernel_rfl))) (Xs_cons (X_if (T_not (T_val (E_call C (by kernel_rfl) ns_between (by kernel_rfl) (by kernel_rfl) (s_between C) (by decide) (EL_cons (E_loc (by kernel_rfl) (by kernel_rfl)) (EL_cons (E_bin C (E_loc (by kernel_rfl) (by kernel_rfl)) E_int P_add) (EL_cons (E_loc (by kernel_rfl) (by kernel_rfl)) EL_nil (by kernel_rfl)) (by kernel_rfl)) (by kernel_rfl)) (by kernel_rfl)) rfl)) (Xs_one (X_raise C rfl (by kernel_rfl) ns_BadPlan (by kernel_rfl) xok_BadPlan (by kernel_rfl) (EL_cons E_str EL_nil (by kernel_rfl)) (by decide) (by kernel_rfl) (by intro q vs q' h; cases h; decide))) Xs_nil) (Xs_one (X_assign (.inl (by kernel_rfl)) (E_loc (by kernel_rfl) (by kernel_rfl)) rfl))) (fun _ => rfl)) (Xs_cons (X_setattr C hasS_pages (E_loc (by kernel_rfl) (by kernel_rfl)) (E_loc (by kernel_rfl) (by kernel_rfl)) rfl) (Xs_cons (X_setattr C hasS_length (E_loc (by kernel_rfl) (by kernel_rfl)) (E_loc (by kernel_rfl) (by kernel_rfl)) rfl) (Xs_one (X_setattr C hasS_sizes (E_blt (bv := (.type "list")) C (by kernel_rfl) ns_list (by decide +kernel) (by decide) (by decide) (callsBy_type _) (EL_cons (E_loc (by kernel_rfl) (by kernel_rfl)) EL_nil (by kernel_rfl)) (by kernel_rfl) (fun A ι q s vs cvs ha R hv => P_listOf C R hv)) (E_loc (by kernel_rfl) (by kernel_rfl)) rfl))))))))
noncomputable def t_law_cell_at_1 (sn : List Int) : Cm Fl := (((getV "_law_k").bnd fun v4 => (((getV "_law_script").bnd fun v2 => (Cm.pur ([] : List V)).bnd fun vs3 => Cm.pur (v2 :: vs3)).bnd fun vs1 => lenV sn vs1).bnd fun v5 => (cmpV .Lt v4 v5).bnd fun x6 => Cm.pur x6).bnd fun b10 => if b10 then (((getV "_law_script").bnd fun v7 => (getV "_law_k").bnd fun v8 => itemV sn v7 v8).bnd fun v9 => Cm.pur (Fl.ret v9)) else (Cm.pur Fl.next))
noncomputable def t_law_cell_at_2 (sn : List Int) : Cm Fl := ((Cm.pur (V.int 0)).bnd fun v11 => Cm.pur (Fl.ret v11))
noncomputable def m_law_cell_at (sn : List Int) : Cm Fl := (seqV (t_law_cell_at_1 sn) (t_law_cell_at_2 sn))
noncomputable def f_law_cell_at (sn : List Int) : Fc := fnV ["_law_script", "_law_k"] (m_law_cell_at sn)
theorem s_law_cell_at (C : CxOk (Gx w hB os mg mb sa sv sn)) : FnOk (Gx w hB os mg mb sa sv sn) true 1 174 (f_law_cell_at sn) :=
  FnOk.of C (k := 0) ⟨⟨_, _, _, rfl⟩, by kernel_rfl, rfl, rfl, rfl, rfl, (by intro vals h; obtain ⟨a0, a1, rfl⟩ := len2 h; kernel_rfl), by decide +kernel, by decide, by decide +kernel, rfl, rfl, rfl⟩ fun L =>
  (Xs_cons (X_if (T_cmp C (E_loc (by kernel_rfl) (by kernel_rfl)) (E_blt (bv := (.builtin "len")) C (by kernel_rfl) ns_len (by decide +kernel) (by decide) (by decide) (callsBy_builtin _) (EL_cons (E_loc (by kernel_rfl) (by kernel_rfl)) EL_nil (by kernel_rfl)) (by kernel_rfl) (fun A ι q s vs cvs ha R hv => P_len C R hv)) (by kernel_rfl)) (Xs_one (X_ret (E_sub C (E_loc (by kernel_rfl) (by kernel_rfl)) (E_loc (by kernel_rfl) (by kernel_rfl)) (fun _ _ => rfl)))) Xs_nil) (Xs_one (X_ret E_int)))
noncomputable def t_law_refused_1 (sn : List Int) : Cm Fl := ((((getV "_law_way").bnd fun v1 => (Cm.pur (V.int 2)).bnd fun v2 => modV v1 v2).bnd fun v3 => (Cm.pur (V.int 0)).bnd fun v4 => (cmpV .Eq v3 v4).bnd fun x5 => Cm.pur x5).bnd fun b15 => if b15 then (seqV (tryV ((((getV "_law_pages").bnd fun v11 => ((getV "_law_length").bnd fun v9 => ((getV "_law_sizes").bnd fun v7 => (Cm.pur ([] : List V)).bnd fun vs8 => Cm.pur (v7 :: vs8)).bnd fun vs10 => Cm.pur (v9 :: vs10)).bnd fun vs12 => Cm.pur (v11 :: vs12)).bnd fun vs6 => makeV "Plan" (f_Plan_init sn) vs6).bnd fun _ => Cm.pur Fl.next) (fun c => if c = "BadPlan" then ((Cm.pur (V.bool true)).bnd fun v13 => Cm.pur (Fl.ret v13)) else Cm.stk)) ((Cm.pur (V.bool false)).bnd fun v14 => Cm.pur (Fl.ret v14))) else (Cm.pur Fl.next))
noncomputable def t_law_refused_2 (sn : List Int) : Cm Fl := (tryV ((((getV "_law_pages").bnd fun v21 => ((getV "_law_length").bnd fun v19 => ((getV "_law_sizes").bnd fun v17 => (Cm.pur ([] : List V)).bnd fun vs18 => Cm.pur (v17 :: vs18)).bnd fun vs20 => Cm.pur (v19 :: vs20)).bnd fun vs22 => Cm.pur (v21 :: vs22)).bnd fun vs16 => makeV "Plan" (f_Plan_init sn) vs16).bnd fun _ => Cm.pur Fl.next) (fun c => if c = "RoomError" then (asV "e" "RoomError" (seqV (((((getV "e").bnd fun v24 => isxV [("RoomError", false), ("BadPlan", false), ("BadWish", true), ("TooLarge", false), ("NoSize", false), ("NoRoom", false), ("NotOut", false), ("OutOfThing", false)] v24).bnd fun v25 => truthV v25).bnd fun b34 => if b34 then Cm.pur true else ((((getV "e").bnd fun v27 => isxV [("RoomError", false), ("BadPlan", false), ("BadWish", false), ("TooLarge", true), ("NoSize", false), ("NoRoom", false), ("NotOut", false), ("OutOfThing", false)] v27).bnd fun v28 => truthV v28).bnd fun b33 => if b33 then Cm.pur true else ((((getV "e").bnd fun v30 => isxV [("RoomError", false), ("BadPlan", false), ("BadWish", false), ("TooLarge", false), ("NoSize", false), ("NoRoom", true), ("NotOut", false), ("OutOfThing", false)] v30).bnd fun v31 => truthV v31).bnd fun b32 => if b32 then Cm.pur true else (Cm.pur false)))).bnd fun b36 => if b36 then ((Cm.pur (V.bool false)).bnd fun v35 => Cm.pur (Fl.ret v35)) else (Cm.pur Fl.next)) (seqV (((((getV "e").bnd fun v38 => isxV [("RoomError", false), ("BadPlan", false), ("BadWish", false), ("TooLarge", false), ("NoSize", false), ("NoRoom", false), ("NotOut", true), ("OutOfThing", false)] v38).bnd fun v39 => truthV v39).bnd fun b48 => if b48 then Cm.pur true else ((((getV "e").bnd fun v41 => isxV [("RoomError", false), ("BadPlan", false), ("BadWish", false), ("TooLarge", false), ("NoSize", false), ("NoRoom", false), ("NotOut", false), ("OutOfThing", true)] v41).bnd fun v42 => truthV v42).bnd fun b47 => if b47 then Cm.pur true else ((((getV "e").bnd fun v44 => isxV [("RoomError", false), ("BadPlan", false), ("BadWish", false), ("TooLarge", false), ("NoSize", true), ("NoRoom", false), ("NotOut", false), ("OutOfThing", false)] v44).bnd fun v45 => truthV v45).bnd fun b46 => if b46 then Cm.pur true else (Cm.pur false)))).bnd fun b50 => if b50 then ((Cm.pur (V.bool false)).bnd fun v49 => Cm.pur (Fl.ret v49)) else (Cm.pur Fl.next)) ((((getV "e").bnd fun v52 => isxV [("RoomError", true), ("BadPlan", true), ("BadWish", true), ("TooLarge", true), ("NoSize", true), ("NoRoom", true), ("NotOut", true), ("OutOfThing", true)] v52).bnd fun v55 => (truthV v55).bnd fun b56 => if b56 then ((getV "e").bnd fun v54 => isxV [("RoomError", false), ("BadPlan", true), ("BadWish", false), ("TooLarge", false), ("NoSize", false), ("NoRoom", false), ("NotOut", false), ("OutOfThing", false)] v54) else Cm.pur v55).bnd fun v57 => Cm.pur (Fl.ret v57))))) else if c = "BadPlan" then (asV "e" "BadPlan" (seqV (((((getV "e").bnd fun v24 => isxV [("RoomError", false), ("BadPlan", false), ("BadWish", true), ("TooLarge", false), ("NoSize", false), ("NoRoom", false), ("NotOut", false), ("OutOfThing", false)] v24).bnd fun v25 => truthV v25).bnd fun b34 => if b34 then Cm.pur true else ((((getV "e").bnd fun v27 => isxV [("RoomError", false), ("BadPlan", false), ("BadWish", false), ("TooLarge", true), ("NoSize", false), ("NoRoom", false), ("NotOut", false), ("OutOfThing", false)] v27).bnd fun v28 => truthV v28).bnd fun b33 => if b33 then Cm.pur true else ((((getV "e").bnd fun v30 => isxV [("RoomError", false), ("BadPlan", false), ("BadWish", false), ("TooLarge", false), ("NoSize", false), ("NoRoom", true), ("NotOut", false), ("OutOfThing", false)] v30).bnd fun v31 => truthV v31).bnd fun b32 => if b32 then Cm.pur true else (Cm.pur false)))).bnd fun b36 => if b36 then ((Cm.pur (V.bool false)).bnd fun v35 => Cm.pur (Fl.ret v35)) else (Cm.pur Fl.next)) (seqV (((((getV "e").bnd fun v38 => isxV [("RoomError", false), ("BadPlan", false), ("BadWish", false), ("TooLarge", false), ("NoSize", false), ("NoRoom", false), ("NotOut", true), ("OutOfThing", false)] v38).bnd fun v39 => truthV v39).bnd fun b48 => if b48 then Cm.pur true else ((((getV "e").bnd fun v41 => isxV [("RoomError", false), ("BadPlan", false), ("BadWish", false), ("TooLarge", false), ("NoSize", false), ("NoRoom", false), ("NotOut", false), ("OutOfThing", true)] v41).bnd fun v42 => truthV v42).bnd fun b47 => if b47 then Cm.pur true else ((((getV "e").bnd fun v44 => isxV [("RoomError", false), ("BadPlan", false), ("BadWish", false), ("TooLarge", false), ("NoSize", true), ("NoRoom", false), ("NotOut", false), ("OutOfThing", false)] v44).bnd fun v45 => truthV v45).bnd fun b46 => if b46 then Cm.pur true else (Cm.pur false)))).bnd fun b50 => if b50 then ((Cm.pur (V.bool false)).bnd fun v49 => Cm.pur (Fl.ret v49)) else (Cm.pur Fl.next)) ((((getV "e").bnd fun v52 => isxV [("RoomError", true), ("BadPlan", true), ("BadWish", true), ("TooLarge", true), ("NoSize", true), ("NoRoom", true), ("NotOut", true), ("OutOfThing", true)] v52).bnd fun v55 => (truthV v55).bnd fun b56 => if b56 then ((getV "e").bnd fun v54 => isxV [("RoomError", false), ("BadPlan", true), ("BadWish", false), ("TooLarge", false), ("NoSize", false), ("NoRoom", false), ("NotOut", false), ("OutOfThing", false)] v54) else Cm.pur v55).bnd fun v57 => Cm.pur (Fl.ret v57))))) else if c = "BadWish" then (asV "e" "BadWish" (seqV (((((getV "e").bnd fun v24 => isxV [("RoomError", false), ("BadPlan", false), ("BadWish", true), ("TooLarge", false), ("NoSize", false), ("NoRoom", false), ("NotOut", false), ("OutOfThing", false)] v24).bnd fun v25 => truthV v25).bnd fun b34 => if b34 then Cm.pur true else ((((getV "e").bnd fun v27 => isxV [("RoomError", false), ("BadPlan", false), ("BadWish", false), ("TooLarge", true), ("NoSize", false), ("NoRoom", false), ("NotOut", false), ("OutOfThing", false)] v27).bnd fun v28 => truthV v28).bnd fun b33 => if b33 then Cm.pur true else ((((getV "e").bnd fun v30 => isxV [("RoomError", false), ("BadPlan", false), ("BadWish", false), ("TooLarge", false), ("NoSize", false), ("NoRoom", true), ("NotOut", false), ("OutOfThing", false)] v30).bnd fun v31 => truthV v31).bnd fun b32 => if b32 then Cm.pur true else (Cm.pur false)))).bnd fun b36 => if b36 then ((Cm.pur (V.bool false)).bnd fun v35 => Cm.pur (Fl.ret v35)) else (Cm.pur Fl.next)) (seqV (((((getV "e").bnd fun v38 => isxV [("RoomError", false), ("BadPlan", false), ("BadWish", false), ("TooLarge", false), ("NoSize", false), ("NoRoom", false), ("NotOut", true), ("OutOfThing", false)] v38).bnd fun v39 => truthV v39).bnd fun b48 => if b48 then Cm.pur true else ((((getV "e").bnd fun v41 => isxV [("RoomError", false), ("BadPlan", false), ("BadWish", false), ("TooLarge", false), ("NoSize", false), ("NoRoom", false), ("NotOut", false), ("OutOfThing", true)] v41).bnd fun v42 => truthV v42).bnd fun b47 => if b47 then Cm.pur true else ((((getV "e").bnd fun v44 => isxV [("RoomError", false), ("BadPlan", false), ("BadWish", false), ("TooLarge", false), ("NoSize", true), ("NoRoom", false), ("NotOut", false), ("OutOfThing", false)] v44).bnd fun v45 => truthV v45).bnd fun b46 => if b46 then Cm.pur true else (Cm.pur false)))).bnd fun b50 => if b50 then ((Cm.pur (V.bool false)).bnd fun v49 => Cm.pur (Fl.ret v49)) else (Cm.pur Fl.next)) ((((getV "e").bnd fun v52 => isxV [("RoomError", true), ("BadPlan", true), ("BadWish", true), ("TooLarge", true), ("NoSize", true), ("NoRoom", true), ("NotOut", true), ("OutOfThing", true)] v52).bnd fun v55 => (truthV v55).bnd fun b56 => if b56 then ((getV "e").bnd fun v54 => isxV [("RoomError", false), ("BadPlan", true), ("BadWish", false), ("TooLarge", false), ("NoSize", false), ("NoRoom", false), ("NotOut", false), ("OutOfThing", false)] v54) else Cm.pur v55).bnd fun v57 => Cm.pur (Fl.ret v57))))) else if c = "TooLarge" then (asV "e" "TooLarge" (seqV (((((getV "e").bnd fun v24 => isxV [("RoomError", false), ("BadPlan", false), ("BadWish", true), ("TooLarge", false), ("NoSize", false), ("NoRoom", false), ("NotOut", false), ("OutOfThing", false)] v24).bnd fun v25 => truthV v25).bnd fun b34 => if b34 then Cm.pur true else ((((getV "e").bnd fun v27 => isxV [("RoomError", false), ("BadPlan", false), ("BadWish", false), ("TooLarge", true), ("NoSize", false), ("NoRoom", false), ("NotOut", false), ("OutOfThing", false)] v27).bnd fun v28 => truthV v28).bnd fun b33 => if b33 then Cm.pur true else ((((getV "e").bnd fun v30 => isxV [("RoomError", false), ("BadPlan", false), ("BadWish", false), ("TooLarge", false), ("NoSize", false), ("NoRoom", true), ("NotOut", false), ("OutOfThing", false)] v30).bnd fun v31 => truthV v31).bnd fun b32 => if b32 then Cm.pur true else (Cm.pur false)))).bnd fun b36 => if b36 then ((Cm.pur (V.bool false)).bnd fun v35 => Cm.pur (Fl.ret v35)) else (Cm.pur Fl.next)) (seqV (((((getV "e").bnd fun v38 => isxV [("RoomError", false), ("BadPlan", false), ("BadWish", false), ("TooLarge", false), ("NoSize", false), ("NoRoom", false), ("NotOut", true), ("OutOfThing", false)] v38).bnd fun v39 => truthV v39).bnd fun b48 => if b48 then Cm.pur true else ((((getV "e").bnd fun v41 => isxV [("RoomError", false), ("BadPlan", false), ("BadWish", false), ("TooLarge", false), ("NoSize", false), ("NoRoom", false), ("NotOut", false), ("OutOfThing", true)] v41).bnd fun v42 => truthV v42).bnd fun b47 => if b47 then Cm.pur true else ((((getV "e").bnd fun v44 => isxV [("RoomError", false), ("BadPlan", false), ("BadWish", false), ("TooLarge", false), ("NoSize", true), ("NoRoom", false), ("NotOut", false), ("OutOfThing", false)] v44).bnd fun v45 => truthV v45).bnd fun b46 => if b46 then Cm.pur true else (Cm.pur false)))).bnd fun b50 => if b50 then ((Cm.pur (V.bool false)).bnd fun v49 => Cm.pur (Fl.ret v49)) else (Cm.pur Fl.next)) ((((getV "e").bnd fun v52 => isxV [("RoomError", true), ("BadPlan", true), ("BadWish", true), ("TooLarge", true), ("NoSize", true), ("NoRoom", true), ("NotOut", true), ("OutOfThing", true)] v52).bnd fun v55 => (truthV v55).bnd fun b56 => if b56 then ((getV "e").bnd fun v54 => isxV [("RoomError", false), ("BadPlan", true), ("BadWish", false), ("TooLarge", false), ("NoSize", false), ("NoRoom", false), ("NotOut", false), ("OutOfThing", false)] v54) else Cm.pur v55).bnd fun v57 => Cm.pur (Fl.ret v57))))) else if c = "NoSize" then (asV "e" "NoSize" (seqV (((((getV "e").bnd fun v24 => isxV [("RoomError", false), ("BadPlan", false), ("BadWish", true), ("TooLarge", false), ("NoSize", false), ("NoRoom", false), ("NotOut", false), ("OutOfThing", false)] v24).bnd fun v25 => truthV v25).bnd fun b34 => if b34 then Cm.pur true else ((((getV "e").bnd fun v27 => isxV [("RoomError", false), ("BadPlan", false), ("BadWish", false), ("TooLarge", true), ("NoSize", false), ("NoRoom", false), ("NotOut", false), ("OutOfThing", false)] v27).bnd fun v28 => truthV v28).bnd fun b33 => if b33 then Cm.pur true else ((((getV "e").bnd fun v30 => isxV [("RoomError", false), ("BadPlan", false), ("BadWish", false), ("TooLarge", false), ("NoSize", false), ("NoRoom", true), ("NotOut", false), ("OutOfThing", false)] v30).bnd fun v31 => truthV v31).bnd fun b32 => if b32 then Cm.pur true else (Cm.pur false)))).bnd fun b36 => if b36 then ((Cm.pur (V.bool false)).bnd fun v35 => Cm.pur (Fl.ret v35)) else (Cm.pur Fl.next)) (seqV (((((getV "e").bnd fun v38 => isxV [("RoomError", false), ("BadPlan", false), ("BadWish", false), ("TooLarge", false), ("NoSize", false), ("NoRoom", false), ("NotOut", true), ("OutOfThing", false)] v38).bnd fun v39 => truthV v39).bnd fun b48 => if b48 then Cm.pur true else ((((getV "e").bnd fun v41 => isxV [("RoomError", false), ("BadPlan", false), ("BadWish", false), ("TooLarge", false), ("NoSize", false), ("NoRoom", false), ("NotOut", false), ("OutOfThing", true)] v41).bnd fun v42 => truthV v42).bnd fun b47 => if b47 then Cm.pur true else ((((getV "e").bnd fun v44 => isxV [("RoomError", false), ("BadPlan", false), ("BadWish", false), ("TooLarge", false), ("NoSize", true), ("NoRoom", false), ("NotOut", false), ("OutOfThing", false)] v44).bnd fun v45 => truthV v45).bnd fun b46 => if b46 then Cm.pur true else (Cm.pur false)))).bnd fun b50 => if b50 then ((Cm.pur (V.bool false)).bnd fun v49 => Cm.pur (Fl.ret v49)) else (Cm.pur Fl.next)) ((((getV "e").bnd fun v52 => isxV [("RoomError", true), ("BadPlan", true), ("BadWish", true), ("TooLarge", true), ("NoSize", true), ("NoRoom", true), ("NotOut", true), ("OutOfThing", true)] v52).bnd fun v55 => (truthV v55).bnd fun b56 => if b56 then ((getV "e").bnd fun v54 => isxV [("RoomError", false), ("BadPlan", true), ("BadWish", false), ("TooLarge", false), ("NoSize", false), ("NoRoom", false), ("NotOut", false), ("OutOfThing", false)] v54) else Cm.pur v55).bnd fun v57 => Cm.pur (Fl.ret v57))))) else if c = "NoRoom" then (asV "e" "NoRoom" (seqV (((((getV "e").bnd fun v24 => isxV [("RoomError", false), ("BadPlan", false), ("BadWish", true), ("TooLarge", false), ("NoSize", false), ("NoRoom", false), ("NotOut", false), ("OutOfThing", false)] v24).bnd fun v25 => truthV v25).bnd fun b34 => if b34 then Cm.pur true else ((((getV "e").bnd fun v27 => isxV [("RoomError", false), ("BadPlan", false), ("BadWish", false), ("TooLarge", true), ("NoSize", false), ("NoRoom", false), ("NotOut", false), ("OutOfThing", false)] v27).bnd fun v28 => truthV v28).bnd fun b33 => if b33 then Cm.pur true else ((((getV "e").bnd fun v30 => isxV [("RoomError", false), ("BadPlan", false), ("BadWish", false), ("TooLarge", false), ("NoSize", false), ("NoRoom", true), ("NotOut", false), ("OutOfThing", false)] v30).bnd fun v31 => truthV v31).bnd fun b32 => if b32 then Cm.pur true else (Cm.pur false)))).bnd fun b36 => if b36 then ((Cm.pur (V.bool false)).bnd fun v35 => Cm.pur (Fl.ret v35)) else (Cm.pur Fl.next)) (seqV (((((getV "e").bnd fun v38 => isxV [("RoomError", false), ("BadPlan", false), ("BadWish", false), ("TooLarge", false), ("NoSize", false), ("NoRoom", false), ("NotOut", true), ("OutOfThing", false)] v38).bnd fun v39 => truthV v39).bnd fun b48 => if b48 then Cm.pur true else ((((getV "e").bnd fun v41 => isxV [("RoomError", false), ("BadPlan", false), ("BadWish", false), ("TooLarge", false), ("NoSize", false), ("NoRoom", false), ("NotOut", false), ("OutOfThing", true)] v41).bnd fun v42 => truthV v42).bnd fun b47 => if b47 then Cm.pur true else ((((getV "e").bnd fun v44 => isxV [("RoomError", false), ("BadPlan", false), ("BadWish", false), ("TooLarge", false), ("NoSize", true), ("NoRoom", false), ("NotOut", false), ("OutOfThing", false)] v44).bnd fun v45 => truthV v45).bnd fun b46 => if b46 then Cm.pur true else (Cm.pur false)))).bnd fun b50 => if b50 then ((Cm.pur (V.bool false)).bnd fun v49 => Cm.pur (Fl.ret v49)) else (Cm.pur Fl.next)) ((((getV "e").bnd fun v52 => isxV [("RoomError", true), ("BadPlan", true), ("BadWish", true), ("TooLarge", true), ("NoSize", true), ("NoRoom", true), ("NotOut", true), ("OutOfThing", true)] v52).bnd fun v55 => (truthV v55).bnd fun b56 => if b56 then ((getV "e").bnd fun v54 => isxV [("RoomError", false), ("BadPlan", true), ("BadWish", false), ("TooLarge", false), ("NoSize", false), ("NoRoom", false), ("NotOut", false), ("OutOfThing", false)] v54) else Cm.pur v55).bnd fun v57 => Cm.pur (Fl.ret v57))))) else if c = "NotOut" then (asV "e" "NotOut" (seqV (((((getV "e").bnd fun v24 => isxV [("RoomError", false), ("BadPlan", false), ("BadWish", true), ("TooLarge", false), ("NoSize", false), ("NoRoom", false), ("NotOut", false), ("OutOfThing", false)] v24).bnd fun v25 => truthV v25).bnd fun b34 => if b34 then Cm.pur true else ((((getV "e").bnd fun v27 => isxV [("RoomError", false), ("BadPlan", false), ("BadWish", false), ("TooLarge", true), ("NoSize", false), ("NoRoom", false), ("NotOut", false), ("OutOfThing", false)] v27).bnd fun v28 => truthV v28).bnd fun b33 => if b33 then Cm.pur true else ((((getV "e").bnd fun v30 => isxV [("RoomError", false), ("BadPlan", false), ("BadWish", false), ("TooLarge", false), ("NoSize", false), ("NoRoom", true), ("NotOut", false), ("OutOfThing", false)] v30).bnd fun v31 => truthV v31).bnd fun b32 => if b32 then Cm.pur true else (Cm.pur false)))).bnd fun b36 => if b36 then ((Cm.pur (V.bool false)).bnd fun v35 => Cm.pur (Fl.ret v35)) else (Cm.pur Fl.next)) (seqV (((((getV "e").bnd fun v38 => isxV [("RoomError", false), ("BadPlan", false), ("BadWish", false), ("TooLarge", false), ("NoSize", false), ("NoRoom", false), ("NotOut", true), ("OutOfThing", false)] v38).bnd fun v39 => truthV v39).bnd fun b48 => if b48 then Cm.pur true else ((((getV "e").bnd fun v41 => isxV [("RoomError", false), ("BadPlan", false), ("BadWish", false), ("TooLarge", false), ("NoSize", false), ("NoRoom", false), ("NotOut", false), ("OutOfThing", true)] v41).bnd fun v42 => truthV v42).bnd fun b47 => if b47 then Cm.pur true else ((((getV "e").bnd fun v44 => isxV [("RoomError", false), ("BadPlan", false), ("BadWish", false), ("TooLarge", false), ("NoSize", true), ("NoRoom", false), ("NotOut", false), ("OutOfThing", false)] v44).bnd fun v45 => truthV v45).bnd fun b46 => if b46 then Cm.pur true else (Cm.pur false)))).bnd fun b50 => if b50 then ((Cm.pur (V.bool false)).bnd fun v49 => Cm.pur (Fl.ret v49)) else (Cm.pur Fl.next)) ((((getV "e").bnd fun v52 => isxV [("RoomError", true), ("BadPlan", true), ("BadWish", true), ("TooLarge", true), ("NoSize", true), ("NoRoom", true), ("NotOut", true), ("OutOfThing", true)] v52).bnd fun v55 => (truthV v55).bnd fun b56 => if b56 then ((getV "e").bnd fun v54 => isxV [("RoomError", false), ("BadPlan", true), ("BadWish", false), ("TooLarge", false), ("NoSize", false), ("NoRoom", false), ("NotOut", false), ("OutOfThing", false)] v54) else Cm.pur v55).bnd fun v57 => Cm.pur (Fl.ret v57))))) else if c = "OutOfThing" then (asV "e" "OutOfThing" (seqV (((((getV "e").bnd fun v24 => isxV [("RoomError", false), ("BadPlan", false), ("BadWish", true), ("TooLarge", false), ("NoSize", false), ("NoRoom", false), ("NotOut", false), ("OutOfThing", false)] v24).bnd fun v25 => truthV v25).bnd fun b34 => if b34 then Cm.pur true else ((((getV "e").bnd fun v27 => isxV [("RoomError", false), ("BadPlan", false), ("BadWish", false), ("TooLarge", true), ("NoSize", false), ("NoRoom", false), ("NotOut", false), ("OutOfThing", false)] v27).bnd fun v28 => truthV v28).bnd fun b33 => if b33 then Cm.pur true else ((((getV "e").bnd fun v30 => isxV [("RoomError", false), ("BadPlan", false), ("BadWish", false), ("TooLarge", false), ("NoSize", false), ("NoRoom", true), ("NotOut", false), ("OutOfThing", false)] v30).bnd fun v31 => truthV v31).bnd fun b32 => if b32 then Cm.pur true else (Cm.pur false)))).bnd fun b36 => if b36 then ((Cm.pur (V.bool false)).bnd fun v35 => Cm.pur (Fl.ret v35)) else (Cm.pur Fl.next)) (seqV (((((getV "e").bnd fun v38 => isxV [("RoomError", false), ("BadPlan", false), ("BadWish", false), ("TooLarge", false), ("NoSize", false), ("NoRoom", false), ("NotOut", true), ("OutOfThing", false)] v38).bnd fun v39 => truthV v39).bnd fun b48 => if b48 then Cm.pur true else ((((getV "e").bnd fun v41 => isxV [("RoomError", false), ("BadPlan", false), ("BadWish", false), ("TooLarge", false), ("NoSize", false), ("NoRoom", false), ("NotOut", false), ("OutOfThing", true)] v41).bnd fun v42 => truthV v42).bnd fun b47 => if b47 then Cm.pur true else ((((getV "e").bnd fun v44 => isxV [("RoomError", false), ("BadPlan", false), ("BadWish", false), ("TooLarge", false), ("NoSize", true), ("NoRoom", false), ("NotOut", false), ("OutOfThing", false)] v44).bnd fun v45 => truthV v45).bnd fun b46 => if b46 then Cm.pur true else (Cm.pur false)))).bnd fun b50 => if b50 then ((Cm.pur (V.bool false)).bnd fun v49 => Cm.pur (Fl.ret v49)) else (Cm.pur Fl.next)) ((((getV "e").bnd fun v52 => isxV [("RoomError", true), ("BadPlan", true), ("BadWish", true), ("TooLarge", true), ("NoSize", true), ("NoRoom", true), ("NotOut", true), ("OutOfThing", true)] v52).bnd fun v55 => (truthV v55).bnd fun b56 => if b56 then ((getV "e").bnd fun v54 => isxV [("RoomError", false), ("BadPlan", true), ("BadWish", false), ("TooLarge", false), ("NoSize", false), ("NoRoom", false), ("NotOut", false), ("OutOfThing", false)] v54) else Cm.pur v55).bnd fun v57 => Cm.pur (Fl.ret v57))))) else Cm.stk))
noncomputable def t_law_refused_3 (sn : List Int) : Cm Fl := ((Cm.pur (V.bool false)).bnd fun v58 => Cm.pur (Fl.ret v58))
noncomputable def m_law_refused (sn : List Int) : Cm Fl := (seqV (t_law_refused_1 sn) (seqV (t_law_refused_2 sn) (t_law_refused_3 sn)))
noncomputable def f_law_refused (sn : List Int) : Fc := fnV ["_law_pages", "_law_length", "_law_sizes", "_law_way"] (m_law_refused sn)
theorem s_law_refused (C : CxOk (Gx w hB os mg mb sa sv sn)) : FnOk (Gx w hB os mg mb sa sv sn) true 5 195 (f_law_refused sn) :=
  FnOk.of C (k := 4) ⟨⟨_, _, _, rfl⟩, by kernel_rfl, rfl, rfl, rfl, rfl, (by intro vals h; obtain ⟨a0, a1, a2, a3, rfl⟩ := len4 h; kernel_rfl), by decide +kernel, by decide, by decide +kernel, rfl, rfl, rfl⟩ fun L =>
  (Xs_cons (X_if (T_cmp C (E_bin C (E_loc (by kernel_rfl) (by kernel_rfl)) E_int P_mod) E_int (by kernel_rfl)) (Xs_cons (X_try (Xs_one (X_expr (E_make C (by kernel_rfl) ns_Plan keep_Plan (by kernel_rfl) (by kernel_rfl) makes_Plan init_Plan (by kernel_rfl) (s_Plan_init C) (by decide) (EL_cons (E_loc (by kernel_rfl) (by kernel_rfl)) (EL_cons (E_loc (by kernel_rfl) (by kernel_rfl)) (EL_cons (E_loc (by kernel_rfl) (by kernel_rfl)) EL_nil (by kernel_rfl)) (by kernel_rfl)) (by kernel_rfl)) (by kernel_rfl)) rfl rfl)) (fun c => (hd_if (H_hit (a := 44) C (by kernel_rfl) ns_BadPlan (by kernel_rfl) (by kernel_rfl) (by kernel_rfl) (Xs_one (X_ret E_bool))) hd_stk))) (Xs_one (X_ret E_bool))) Xs_nil) (Xs_cons (X_try (Xs_one (X_expr (E_make C (by kernel_rfl) ns_Plan keep_Plan (by kernel_rfl) (by kernel_rfl) makes_Plan init_Plan (by kernel_rfl) (s_Plan_init C) (by decide) (EL_cons (E_loc (by kernel_rfl) (by kernel_rfl)) (EL_cons (E_loc (by kernel_rfl) (by kernel_rfl)) (EL_cons (E_loc (by kernel_rfl) (by kernel_rfl)) EL_nil (by kernel_rfl)) (by kernel_rfl)) (by kernel_rfl)) (by kernel_rfl)) rfl rfl)) (fun c => (hd_if (H_hit_as (a := 31) C (by kernel_rfl) ns_RoomError (by kernel_rfl) (by kernel_rfl) (by kernel_rfl) (by kernel_rfl) (Xs_cons (X_if (T_bool (TA_or (T_val (E_isx C (X := xclL) (fun _ => rfl) isx_BadWish (by kernel_rfl) ns_isinstance (fun A ι q s Q E R h => glob_load C R (by kernel_rfl) ns_BadWish (by kernel_rfl) h) (E_loc (by kernel_rfl) (by kernel_rfl)) (by kernel_rfl) (by kernel_rfl) (by kernel_rfl)) rfl) (TA_or (T_val (E_isx C (X := xclL) (fun _ => rfl) isx_TooLarge (by kernel_rfl) ns_isinstance (fun A ι q s Q E R h => glob_load C R (by kernel_rfl) ns_TooLarge (by kernel_rfl) h) (E_loc (by kernel_rfl) (by kernel_rfl)) (by kernel_rfl) (by kernel_rfl) (by kernel_rfl)) rfl) (TA_or (T_val (E_isx C (X := xclL) (fun _ => rfl) isx_NoRoom (by kernel_rfl) ns_isinstance (fun A ι q s Q E R h => glob_load C R (by kernel_rfl) ns_NoRoom (by kernel_rfl) h) (E_loc (by kernel_rfl) (by kernel_rfl)) (by kernel_rfl) (by kernel_rfl) (by kernel_rfl)) rfl) TA_or0)))) (Xs_one (X_ret E_bool)) Xs_nil) (Xs_cons (X_if (T_bool (TA_or (T_val (E_isx C (X := xclL) (fun _ => rfl) isx_NotOut (by kernel_rfl) ns_isinstance (fun A ι q s Q E R h => glob_load C R (by kernel_rfl) ns_NotOut (by kernel_rfl) h) (E_loc (by kernel_rfl) (by kernel_rfl)) (by kernel_rfl) (by kernel_rfl) (by kernel_rfl)) rfl) (TA_or (T_val (E_isx C (X := xclL) (fun _ => rfl) isx_OutOfThing (by kernel_rfl) ns_isinstance (fun A ι q s Q E R h => glob_load C R (by kernel_rfl) ns_OutOfThing (by kernel_rfl) h) (E_loc (by kernel_rfl) (by kernel_rfl)) (by kernel_rfl) (by kernel_rfl) (by kernel_rfl)) rfl) (TA_or (T_val (E_isx C (X := xclL) (fun _ => rfl) isx_NoSize (by kernel_rfl) ns_isinstance (fun A ι q s Q E R h => glob_load C R (by kernel_rfl) ns_NoSize (by kernel_rfl) h) (E_loc (by kernel_rfl) (by kernel_rfl)) (by kernel_rfl) (by kernel_rfl) (by kernel_rfl)) rfl) TA_or0)))) (Xs_one (X_ret E_bool)) Xs_nil) (Xs_one (X_ret (E_boolop (EB_and (E_isx C (X := xclL) (fun _ => rfl) isx_ValueError (by kernel_rfl) ns_isinstance (fun A ι q s Q E R h => blt_load C R (by kernel_rfl) ns_ValueError (by decide +kernel) (by decide) (by decide) h) (E_loc (by kernel_rfl) (by kernel_rfl)) (by kernel_rfl) (by kernel_rfl) (by kernel_rfl)) (EB_one (E_isx C (X := xclL) (fun _ => rfl) isx_BadPlan (by kernel_rfl) ns_isinstance (fun A ι q s Q E R h => glob_load C R (by kernel_rfl) ns_BadPlan (by kernel_rfl) h) (E_loc (by kernel_rfl) (by kernel_rfl)) (by kernel_rfl) (by kernel_rfl) (by kernel_rfl)))))))))) (hd_if (H_hit_as (a := 44) C (by kernel_rfl) ns_RoomError (by kernel_rfl) (by kernel_rfl) (by kernel_rfl) (by kernel_rfl) (Xs_cons (X_if (T_bool (TA_or (T_val (E_isx C (X := xclL) (fun _ => rfl) isx_BadWish (by kernel_rfl) ns_isinstance (fun A ι q s Q E R h => glob_load C R (by kernel_rfl) ns_BadWish (by kernel_rfl) h) (E_loc (by kernel_rfl) (by kernel_rfl)) (by kernel_rfl) (by kernel_rfl) (by kernel_rfl)) rfl) (TA_or (T_val (E_isx C (X := xclL) (fun _ => rfl) isx_TooLarge (by kernel_rfl) ns_isinstance (fun A ι q s Q E R h => glob_load C R (by kernel_rfl) ns_TooLarge (by kernel_rfl) h) (E_loc (by kernel_rfl) (by kernel_rfl)) (by kernel_rfl) (by kernel_rfl) (by kernel_rfl)) rfl) (TA_or (T_val (E_isx C (X := xclL) (fun _ => rfl) isx_NoRoom (by kernel_rfl) ns_isinstance (fun A ι q s Q E R h => glob_load C R (by kernel_rfl) ns_NoRoom (by kernel_rfl) h) (E_loc (by kernel_rfl) (by kernel_rfl)) (by kernel_rfl) (by kernel_rfl) (by kernel_rfl)) rfl) TA_or0)))) (Xs_one (X_ret E_bool)) Xs_nil) (Xs_cons (X_if (T_bool (TA_or (T_val (E_isx C (X := xclL) (fun _ => rfl) isx_NotOut (by kernel_rfl) ns_isinstance (fun A ι q s Q E R h => glob_load C R (by kernel_rfl) ns_NotOut (by kernel_rfl) h) (E_loc (by kernel_rfl) (by kernel_rfl)) (by kernel_rfl) (by kernel_rfl) (by kernel_rfl)) rfl) (TA_or (T_val (E_isx C (X := xclL) (fun _ => rfl) isx_OutOfThing (by kernel_rfl) ns_isinstance (fun A ι q s Q E R h => glob_load C R (by kernel_rfl) ns_OutOfThing (by kernel_rfl) h) (E_loc (by kernel_rfl) (by kernel_rfl)) (by kernel_rfl) (by kernel_rfl) (by kernel_rfl)) rfl) (TA_or (T_val (E_isx C (X := xclL) (fun _ => rfl) isx_NoSize (by kernel_rfl) ns_isinstance (fun A ι q s Q E R h => glob_load C R (by kernel_rfl) ns_NoSize (by kernel_rfl) h) (E_loc (by kernel_rfl) (by kernel_rfl)) (by kernel_rfl) (by kernel_rfl) (by kernel_rfl)) rfl) TA_or0)))) (Xs_one (X_ret E_bool)) Xs_nil) (Xs_one (X_ret (E_boolop (EB_and (E_isx C (X := xclL) (fun _ => rfl) isx_ValueError (by kernel_rfl) ns_isinstance (fun A ι q s Q E R h => blt_load C R (by kernel_rfl) ns_ValueError (by decide +kernel) (by decide) (by decide) h) (E_loc (by kernel_rfl) (by kernel_rfl)) (by kernel_rfl) (by kernel_rfl) (by kernel_rfl)) (EB_one (E_isx C (X := xclL) (fun _ => rfl) isx_BadPlan (by kernel_rfl) ns_isinstance (fun A ι q s Q E R h => glob_load C R (by kernel_rfl) ns_BadPlan (by kernel_rfl) h) (E_loc (by kernel_rfl) (by kernel_rfl)) (by kernel_rfl) (by kernel_rfl) (by kernel_rfl)))))))))) (hd_if (H_hit_as (a := 56) C (by kernel_rfl) ns_RoomError (by kernel_rfl) (by kernel_rfl) (by kernel_rfl) (by kernel_rfl) (Xs_cons (X_if (T_bool (TA_or (T_val (E_isx C (X := xclL) (fun _ => rfl) isx_BadWish (by kernel_rfl) ns_isinstance (fun A ι q s Q E R h => glob_load C R (by kernel_rfl) ns_BadWish (by kernel_rfl) h) (E_loc (by kernel_rfl) (by kernel_rfl)) (by kernel_rfl) (by kernel_rfl) (by kernel_rfl)) rfl) (TA_or (T_val (E_isx C (X := xclL) (fun _ => rfl) isx_TooLarge (by kernel_rfl) ns_isinstance (fun A ι q s Q E R h => glob_load C R (by kernel_rfl) ns_TooLarge (by kernel_rfl) h) (E_loc (by kernel_rfl) (by kernel_rfl)) (by kernel_rfl) (by kernel_rfl) (by kernel_rfl)) rfl) (TA_or (T_val (E_isx C (X := xclL) (fun _ => rfl) isx_NoRoom (by kernel_rfl) ns_isinstance (fun A ι q s Q E R h => glob_load C R (by kernel_rfl) ns_NoRoom (by kernel_rfl) h) (E_loc (by kernel_rfl) (by kernel_rfl)) (by kernel_rfl) (by kernel_rfl) (by kernel_rfl)) rfl) TA_or0)))) (Xs_one (X_ret E_bool)) Xs_nil) (Xs_cons (X_if (T_bool (TA_or (T_val (E_isx C (X := xclL) (fun _ => rfl) isx_NotOut (by kernel_rfl) ns_isinstance (fun A ι q s Q E R h => glob_load C R (by kernel_rfl) ns_NotOut (by kernel_rfl) h) (E_loc (by kernel_rfl) (by kernel_rfl)) (by kernel_rfl) (by kernel_rfl) (by kernel_rfl)) rfl) (TA_or (T_val (E_isx C (X := xclL) (fun _ => rfl) isx_OutOfThing (by kernel_rfl) ns_isinstance (fun A ι q s Q E R h => glob_load C R (by kernel_rfl) ns_OutOfThing (by kernel_rfl) h) (E_loc (by kernel_rfl) (by kernel_rfl)) (by kernel_rfl) (by kernel_rfl) (by kernel_rfl)) rfl) (TA_or (T_val (E_isx C (X := xclL) (fun _ => rfl) isx_NoSize (by kernel_rfl) ns_isinstance (fun A ι q s Q E R h => glob_load C R (by kernel_rfl) ns_NoSize (by kernel_rfl) h) (E_loc (by kernel_rfl) (by kernel_rfl)) (by kernel_rfl) (by kernel_rfl) (by kernel_rfl)) rfl) TA_or0)))) (Xs_one (X_ret E_bool)) Xs_nil) (Xs_one (X_ret (E_boolop (EB_and (E_isx C (X := xclL) (fun _ => rfl) isx_ValueError (by kernel_rfl) ns_isinstance (fun A ι q s Q E R h => blt_load C R (by kernel_rfl) ns_ValueError (by decide +kernel) (by decide) (by decide) h) (E_loc (by kernel_rfl) (by kernel_rfl)) (by kernel_rfl) (by kernel_rfl) (by kernel_rfl)) (EB_one (E_isx C (X := xclL) (fun _ => rfl) isx_BadPlan (by kernel_rfl) ns_isinstance (fun A ι q s Q E R h => glob_load C R (by kernel_rfl) ns_BadPlan (by kernel_rfl) h) (E_loc (by kernel_rfl) (by kernel_rfl)) (by kernel_rfl) (by kernel_rfl) (by kernel_rfl)))))))))) (hd_if (H_hit_as (a := 68) C (by kernel_rfl) ns_RoomError (by kernel_rfl) (by kernel_rfl) (by kernel_rfl) (by kernel_rfl) (Xs_cons (X_if (T_bool (TA_or (T_val (E_isx C (X := xclL) (fun _ => rfl) isx_BadWish (by kernel_rfl) ns_isinstance (fun A ι q s Q E R h => glob_load C R (by kernel_rfl) ns_BadWish (by kernel_rfl) h) (E_loc (by kernel_rfl) (by kernel_rfl)) (by kernel_rfl) (by kernel_rfl) (by kernel_rfl)) rfl) (TA_or (T_val (E_isx C (X := xclL) (fun _ => rfl) isx_TooLarge (by kernel_rfl) ns_isinstance (fun A ι q s Q E R h => glob_load C R (by kernel_rfl) ns_TooLarge (by kernel_rfl) h) (E_loc (by kernel_rfl) (by kernel_rfl)) (by kernel_rfl) (by kernel_rfl) (by kernel_rfl)) rfl) (TA_or (T_val (E_isx C (X := xclL) (fun _ => rfl) isx_NoRoom (by kernel_rfl) ns_isinstance (fun A ι q s Q E R h => glob_load C R (by kernel_rfl) ns_NoRoom (by kernel_rfl) h) (E_loc (by kernel_rfl) (by kernel_rfl)) (by kernel_rfl) (by kernel_rfl) (by kernel_rfl)) rfl) TA_or0)))) (Xs_one (X_ret E_bool)) Xs_nil) (Xs_cons (X_if (T_bool (TA_or (T_val (E_isx C (X := xclL) (fun _ => rfl) isx_NotOut (by kernel_rfl) ns_isinstance (fun A ι q s Q E R h => glob_load C R (by kernel_rfl) ns_NotOut (by kernel_rfl) h) (E_loc (by kernel_rfl) (by kernel_rfl)) (by kernel_rfl) (by kernel_rfl) (by kernel_rfl)) rfl) (TA_or (T_val (E_isx C (X := xclL) (fun _ => rfl) isx_OutOfThing (by kernel_rfl) ns_isinstance (fun A ι q s Q E R h => glob_load C R (by kernel_rfl) ns_OutOfThing (by kernel_rfl) h) (E_loc (by kernel_rfl) (by kernel_rfl)) (by kernel_rfl) (by kernel_rfl) (by kernel_rfl)) rfl) (TA_or (T_val (E_isx C (X := xclL) (fun _ => rfl) isx_NoSize (by kernel_rfl) ns_isinstance (fun A ι q s Q E R h => glob_load C R (by kernel_rfl) ns_NoSize (by kernel_rfl) h) (E_loc (by kernel_rfl) (by kernel_rfl)) (by kernel_rfl) (by kernel_rfl) (by kernel_rfl)) rfl) TA_or0)))) (Xs_one (X_ret E_bool)) Xs_nil) (Xs_one (X_ret (E_boolop (EB_and (E_isx C (X := xclL) (fun _ => rfl) isx_ValueError (by kernel_rfl) ns_isinstance (fun A ι q s Q E R h => blt_load C R (by kernel_rfl) ns_ValueError (by decide +kernel) (by decide) (by decide) h) (E_loc (by kernel_rfl) (by kernel_rfl)) (by kernel_rfl) (by kernel_rfl) (by kernel_rfl)) (EB_one (E_isx C (X := xclL) (fun _ => rfl) isx_BadPlan (by kernel_rfl) ns_isinstance (fun A ι q s Q E R h => glob_load C R (by kernel_rfl) ns_BadPlan (by kernel_rfl) h) (E_loc (by kernel_rfl) (by kernel_rfl)) (by kernel_rfl) (by kernel_rfl) (by kernel_rfl)))))))))) (hd_if (H_hit_as (a := 80) C (by kernel_rfl) ns_RoomError (by kernel_rfl) (by kernel_rfl) (by kernel_rfl) (by kernel_rfl) (Xs_cons (X_if (T_bool (TA_or (T_val (E_isx C (X := xclL) (fun _ => rfl) isx_BadWish (by kernel_rfl) ns_isinstance (fun A ι q s Q E R h => glob_load C R (by kernel_rfl) ns_BadWish (by kernel_rfl) h) (E_loc (by kernel_rfl) (by kernel_rfl)) (by kernel_rfl) (by kernel_rfl) (by kernel_rfl)) rfl) (TA_or (T_val (E_isx C (X := xclL) (fun _ => rfl) isx_TooLarge (by kernel_rfl) ns_isinstance (fun A ι q s Q E R h => glob_load C R (by kernel_rfl) ns_TooLarge (by kernel_rfl) h) (E_loc (by kernel_rfl) (by kernel_rfl)) (by kernel_rfl) (by kernel_rfl) (by kernel_rfl)) rfl) (TA_or (T_val (E_isx C (X := xclL) (fun _ => rfl) isx_NoRoom (by kernel_rfl) ns_isinstance (fun A ι q s Q E R h => glob_load C R (by kernel_rfl) ns_NoRoom (by kernel_rfl) h) (E_loc (by kernel_rfl) (by kernel_rfl)) (by kernel_rfl) (by kernel_rfl) (by kernel_rfl)) rfl) TA_or0)))) (Xs_one (X_ret E_bool)) Xs_nil) (Xs_cons (X_if (T_bool (TA_or (T_val (E_isx C (X := xclL) (fun _ => rfl) isx_NotOut (by kernel_rfl) ns_isinstance (fun A ι q s Q E R h => glob_load C R (by kernel_rfl) ns_NotOut (by kernel_rfl) h) (E_loc (by kernel_rfl) (by kernel_rfl)) (by kernel_rfl) (by kernel_rfl) (by kernel_rfl)) rfl) (TA_or (T_val (E_isx C (X := xclL) (fun _ => rfl) isx_OutOfThing (by kernel_rfl) ns_isinstance (fun A ι q s Q E R h => glob_load C R (by kernel_rfl) ns_OutOfThing (by kernel_rfl) h) (E_loc (by kernel_rfl) (by kernel_rfl)) (by kernel_rfl) (by kernel_rfl) (by kernel_rfl)) rfl) (TA_or (T_val (E_isx C (X := xclL) (fun _ => rfl) isx_NoSize (by kernel_rfl) ns_isinstance (fun A ι q s Q E R h => glob_load C R (by kernel_rfl) ns_NoSize (by kernel_rfl) h) (E_loc (by kernel_rfl) (by kernel_rfl)) (by kernel_rfl) (by kernel_rfl) (by kernel_rfl)) rfl) TA_or0)))) (Xs_one (X_ret E_bool)) Xs_nil) (Xs_one (X_ret (E_boolop (EB_and (E_isx C (X := xclL) (fun _ => rfl) isx_ValueError (by kernel_rfl) ns_isinstance (fun A ι q s Q E R h => blt_load C R (by kernel_rfl) ns_ValueError (by decide +kernel) (by decide) (by decide) h) (E_loc (by kernel_rfl) (by kernel_rfl)) (by kernel_rfl) (by kernel_rfl) (by kernel_rfl)) (EB_one (E_isx C (X := xclL) (fun _ => rfl) isx_BadPlan (by kernel_rfl) ns_isinstance (fun A ι q s Q E R h => glob_load C R (by kernel_rfl) ns_BadPlan (by kernel_rfl) h) (E_loc (by kernel_rfl) (by kernel_rfl)) (by kernel_rfl) (by kernel_rfl) (by kernel_rfl)))))))))) (hd_if (H_hit_as (a := 92) C (by kernel_rfl) ns_RoomError (by kernel_rfl) (by kernel_rfl) (by kernel_rfl) (by kernel_rfl) (Xs_cons (X_if (T_bool (TA_or (T_val (E_isx C (X := xclL) (fun _ => rfl) isx_BadWish (by kernel_rfl) ns_isinstance (fun A ι q s Q E R h => glob_load C R (by kernel_rfl) ns_BadWish (by kernel_rfl) h) (E_loc (by kernel_rfl) (by kernel_rfl)) (by kernel_rfl) (by kernel_rfl) (by kernel_rfl)) rfl) (TA_or (T_val (E_isx C (X := xclL) (fun _ => rfl) isx_TooLarge (by kernel_rfl) ns_isinstance (fun A ι q s Q E R h => glob_load C R (by kernel_rfl) ns_TooLarge (by kernel_rfl) h) (E_loc (by kernel_rfl) (by kernel_rfl)) (by kernel_rfl) (by kernel_rfl) (by kernel_rfl)) rfl) (TA_or (T_val (E_isx C (X := xclL) (fun _ => rfl) isx_NoRoom (by kernel_rfl) ns_isinstance (fun A ι q s Q E R h => glob_load C R (by kernel_rfl) ns_NoRoom (by kernel_rfl) h) (E_loc (by kernel_rfl) (by kernel_rfl)) (by kernel_rfl) (by kernel_rfl) (by kernel_rfl)) rfl) TA_or0)))) (Xs_one (X_ret E_bool)) Xs_nil) (Xs_cons (X_if (T_bool (TA_or (T_val (E_isx C (X := xclL) (fun _ => rfl) isx_NotOut (by kernel_rfl) ns_isinstance (fun A ι q s Q E R h => glob_load C R (by kernel_rfl) ns_NotOut (by kernel_rfl) h) (E_loc (by kernel_rfl) (by kernel_rfl)) (by kernel_rfl) (by kernel_rfl) (by kernel_rfl)) rfl) (TA_or (T_val (E_isx C (X := xclL) (fun _ => rfl) isx_OutOfThing (by kernel_rfl) ns_isinstance (fun A ι q s Q E R h => glob_load C R (by kernel_rfl) ns_OutOfThing (by kernel_rfl) h) (E_loc (by kernel_rfl) (by kernel_rfl)) (by kernel_rfl) (by kernel_rfl) (by kernel_rfl)) rfl) (TA_or (T_val (E_isx C (X := xclL) (fun _ => rfl) isx_NoSize (by kernel_rfl) ns_isinstance (fun A ι q s Q E R h => glob_load C R (by kernel_rfl) ns_NoSize (by kernel_rfl) h) (E_loc (by kernel_rfl) (by kernel_rfl)) (by kernel_rfl) (by kernel_rfl) (by kernel_rfl)) rfl) TA_or0)))) (Xs_one (X_ret E_bool)) Xs_nil) (Xs_one (X_ret (E_boolop (EB_and (E_isx C (X := xclL) (fun _ => rfl) isx_ValueError (by kernel_rfl) ns_isinstance (fun A ι q s Q E R h => blt_load C R (by kernel_rfl) ns_ValueError (by decide +kernel) (by decide) (by decide) h) (E_loc (by kernel_rfl) (by kernel_rfl)) (by kernel_rfl) (by kernel_rfl) (by kernel_rfl)) (EB_one (E_isx C (X := xclL) (fun _ => rfl) isx_BadPlan (by kernel_rfl) ns_isinstance (fun A ι q s Q E R h => glob_load C R (by kernel_rfl) ns_BadPlan (by kernel_rfl) h) (E_loc (by kernel_rfl) (by kernel_rfl)) (by kernel_rfl) (by kernel_rfl) (by kernel_rfl)))))))))) (hd_if (H_hit_as (a := 104) C (by kernel_rfl) ns_RoomError (by kernel_rfl) (by kernel_rfl) (by kernel_rfl) (by kernel_rfl) (Xs_cons (X_if (T_bool (TA_or (T_val (E_isx C (X := xclL) (fun _ => rfl) isx_BadWish (by kernel_rfl) ns_isinstance (fun A ι q s Q E R h => glob_load C R (by kernel_rfl) ns_BadWish (by kernel_rfl) h) (E_loc (by kernel_rfl) (by kernel_rfl)) (by kernel_rfl) (by kernel_rfl) (by kernel_rfl)) rfl) (TA_or (T_val (E_isx C (X := xclL) (fun _ => rfl) isx_TooLarge (by kernel_rfl) ns_isinstance (fun A ι q s Q E R h => glob_load C R (by kernel_rfl) ns_TooLarge (by kernel_rfl) h) (E_loc (by kernel_rfl) (by kernel_rfl)) (by kernel_rfl) (by kernel_rfl) (by kernel_rfl)) rfl) (TA_or (T_val (E_isx C (X := xclL) (fun _ => rfl) isx_NoRoom (by kernel_rfl) ns_isinstance (fun A ι q s Q E R h => glob_load C R (by kernel_rfl) ns_NoRoom (by kernel_rfl) h) (E_loc (by kernel_rfl) (by kernel_rfl)) (by kernel_rfl) (by kernel_rfl) (by kernel_rfl)) rfl) TA_or0)))) (Xs_one (X_ret E_bool)) Xs_nil) (Xs_cons (X_if (T_bool (TA_or (T_val (E_isx C (X := xclL) (fun _ => rfl) isx_NotOut (by kernel_rfl) ns_isinstance (fun A ι q s Q E R h => glob_load C R (by kernel_rfl) ns_NotOut (by kernel_rfl) h) (E_loc (by kernel_rfl) (by kernel_rfl)) (by kernel_rfl) (by kernel_rfl) (by kernel_rfl)) rfl) (TA_or (T_val (E_isx C (X := xclL) (fun _ => rfl) isx_OutOfThing (by kernel_rfl) ns_isinstance (fun A ι q s Q E R h => glob_load C R (by kernel_rfl) ns_OutOfThing (by kernel_rfl) h) (E_loc (by kernel_rfl) (by kernel_rfl)) (by kernel_rfl) (by kernel_rfl) (by kernel_rfl)) rfl) (TA_or (T_val (E_isx C (X := xclL) (fun _ => rfl) isx_NoSize (by kernel_rfl) ns_isinstance (fun A ι q s Q E R h => glob_load C R (by kernel_rfl) ns_NoSize (by kernel_rfl) h) (E_loc (by kernel_rfl) (by kernel_rfl)) (by kernel_rfl) (by kernel_rfl) (by kernel_rfl)) rfl) TA_or0)))) (Xs_one (X_ret E_bool)) Xs_nil) (Xs_one (X_ret (E_boolop (EB_and (E_isx C (X := xclL) (fun _ => rfl) isx_ValueError (by kernel_rfl) ns_isinstance (fun A ι q s Q E R h => blt_load C R (by kernel_rfl) ns_ValueError (by decide +kernel) (by decide) (by decide) h) (E_loc (by kernel_rfl) (by kernel_rfl)) (by kernel_rfl) (by kernel_rfl) (by kernel_rfl)) (EB_one (E_isx C (X := xclL) (fun _ => rfl) isx_BadPlan (by kernel_rfl) ns_isinstance (fun A ι q s Q E R h => glob_load C R (by kernel_rfl) ns_BadPlan (by kernel_rfl) h) (E_loc (by kernel_rfl) (by kernel_rfl)) (by kernel_rfl) (by kernel_rfl) (by kernel_rfl)))))))))) (hd_if (H_hit_as (a := 116) C (by kernel_rfl) ns_RoomError (by kernel_rfl) (by kernel_rfl) (by kernel_rfl) (by kernel_rfl) (Xs_cons (X_if (T_bool (TA_or (T_val (E_isx C (X := xclL) (fun _ => rfl) isx_BadWish (by kernel_rfl) ns_isinstance (fun A ι q s Q E R h => glob_load C R (by kernel_rfl) ns_BadWish (by kernel_rfl) h) (E_loc (by kernel_rfl) (by kernel_rfl)) (by kernel_rfl) (by kernel_rfl) (by kernel_rfl)) rfl) (TA_or (T_val (E_isx C (X := xclL) (fun _ => rfl) isx_TooLarge (by kernel_rfl) ns_isinstance (fun A ι q s Q E R h => glob_load C R (by kernel_rfl) ns_TooLarge (by kernel_rfl) h) (E_loc (by kernel_rfl) (by kernel_rfl)) (by kernel_rfl) (by kernel_rfl) (by kernel_rfl)) rfl) (TA_or (T_val (E_isx C (X := xclL) (fun _ => rfl) isx_NoRoom (by kernel_rfl) ns_isinstance (fun A ι q s Q E R h => glob_load C R (by kernel_rfl) ns_NoRoom (by kernel_rfl) h) (E_loc (by kernel_rfl) (by kernel_rfl)) (by kernel_rfl) (by kernel_rfl) (by kernel_rfl)) rfl) TA_or0)))) (Xs_one (X_ret E_bool)) Xs_nil) (Xs_cons (X_if (T_bool (TA_or (T_val (E_isx C (X := xclL) (fun _ => rfl) isx_NotOut (by kernel_rfl) ns_isinstance (fun A ι q s Q E R h => glob_load C R (by kernel_rfl) ns_NotOut (by kernel_rfl) h) (E_loc (by kernel_rfl) (by kernel_rfl)) (by kernel_rfl) (by kernel_rfl) (by kernel_rfl)) rfl) (TA_or (T_val (E_isx C (X := xclL) (fun _ => rfl) isx_OutOfThing (by kernel_rfl) ns_isinstance (fun A ι q s Q E R h => glob_load C R (by kernel_rfl) ns_OutOfThing (by kernel_rfl) h) (E_loc (by kernel_rfl) (by kernel_rfl)) (by kernel_rfl) (by kernel_rfl) (by kernel_rfl)) rfl) (TA_or (T_val (E_isx C (X := xclL) (fun _ => rfl) isx_NoSize (by kernel_rfl) ns_isinstance (fun A ι q s Q E R h => glob_load C R (by kernel_rfl) ns_NoSize (by kernel_rfl) h) (E_loc (by kernel_rfl) (by kernel_rfl)) (by kernel_rfl) (by kernel_rfl) (by kernel_rfl)) rfl) TA_or0)))) (Xs_one (X_ret E_bool)) Xs_nil) (Xs_one (X_ret (E_boolop (EB_and (E_isx C (X := xclL) (fun _ => rfl) isx_ValueError (by kernel_rfl) ns_isinstance (fun A ι q s Q E R h => blt_load C R (by kernel_rfl) ns_ValueError (by decide +kernel) (by decide) (by decide) h) (E_loc (by kernel_rfl) (by kernel_rfl)) (by kernel_rfl) (by kernel_rfl) (by kernel_rfl)) (EB_one (E_isx C (X := xclL) (fun _ => rfl) isx_BadPlan (by kernel_rfl) ns_isinstance (fun A ι q s Q E R h => glob_load C R (by kernel_rfl) ns_BadPlan (by kernel_rfl) h) (E_loc (by kernel_rfl) (by kernel_rfl)) (by kernel_rfl) (by kernel_rfl) (by kernel_rfl)))))))))) hd_stk)))))))))) (Xs_one (X_ret E_bool))))
noncomputable def t_law_sizes_by_1 (sn : List Int) : Cm Fl := (((Cm.pur ([] : List V)).bnd fun vs1 => newL vs1).bnd fun v2 => (setV "_law_found" v2).bnd fun _ => Cm.pur Fl.next)
noncomputable def t_law_sizes_by_2 (sn : List Int) : Cm Fl := ((Cm.pur (V.int 0)).bnd fun v3 => (setV "_law_before" v3).bnd fun _ => Cm.pur Fl.next)
noncomputable def t_law_sizes_by_3 (sn : List Int) : Cm Fl := (((getV "_law_cell").bnd fun v4 => (Cm.pur (V.int 3)).bnd fun v5 => divV v4 v5).bnd fun v6 => (setV "_law_rest" v6).bnd fun _ => Cm.pur Fl.next)
noncomputable def t_law_sizes_by_4 (sn : List Int) : Cm Fl := ((Cm.pur (V.int 4)).bnd fun v7 => (setV "_law_span" v7).bnd fun _ => Cm.pur Fl.next)
noncomputable def t_law_sizes_by_5 (sn : List Int) : Cm Fl := ((((getV "_law_cell").bnd fun v8 => (Cm.pur (V.int 3)).bnd fun v9 => modV v8 v9).bnd fun v10 => (Cm.pur (V.int 0)).bnd fun v11 => (cmpV .Eq v10 v11).bnd fun x12 => Cm.pur x12).bnd fun b14 => if b14 then ((getV "_law_length").bnd fun v13 => (setV "_law_span" v13).bnd fun _ => Cm.pur Fl.next) else (Cm.pur Fl.next))
noncomputable def b_law_sizes_by_1 (sn : List Int) : Cm Fl := (seqV ((((getV "_law_before").bnd fun v18 => (Cm.pur (V.int 1)).bnd fun v19 => addV v18 v19).bnd fun v22 => ((getV "_law_rest").bnd fun v20 => (getV "_law_span").bnd fun v21 => modV v20 v21).bnd fun v23 => addV v22 v23).bnd fun v24 => (setV "_law_before" v24).bnd fun _ => Cm.pur Fl.next) (seqV (((getV "_law_rest").bnd fun v25 => (getV "_law_span").bnd fun v26 => divV v25 v26).bnd fun v27 => (setV "_law_rest" v27).bnd fun _ => Cm.pur Fl.next) (((getV "_law_before").bnd fun v28 => (getV "_law_length").bnd fun v29 => (cmpV .LtE v28 v29).bnd fun x30 => Cm.pur x30).bnd fun b35 => if b35 then (((getV "_law_found").bnd fun v32 => (kindV v32).bnd fun kd33 => if kd33 = true then (getV "_law_before").bnd fun v34 => appendV v32 v34 else Cm.stk).bnd fun _ => Cm.pur Fl.next) else (Cm.pur Fl.next))))
noncomputable def t_law_sizes_by_6 (sn : List Int) : Cm Fl := ((((getV "_law_many").bnd fun v15 => (Cm.pur ([] : List V)).bnd fun vs16 => Cm.pur (v15 :: vs16)).bnd fun vs17 => rangeV vs17).bnd fun it36 => forV it36.g (setV "_law_turn") (b_law_sizes_by_1 sn) it36.xs)
noncomputable def t_law_sizes_by_7 (sn : List Int) : Cm Fl := (((getV "_law_found").bnd fun v38 => ((Cm.pur ([] : List V)).bnd fun vs37 => newL vs37).bnd fun v39 => (cmpV .Eq v38 v39).bnd fun x40 => Cm.pur x40).bnd fun b45 => if b45 then (((getV "_law_found").bnd fun v42 => (kindV v42).bnd fun kd43 => if kd43 = true then (getV "_law_length").bnd fun v44 => appendV v42 v44 else Cm.stk).bnd fun _ => Cm.pur Fl.next) else (Cm.pur Fl.next))
noncomputable def t_law_sizes_by_8 (sn : List Int) : Cm Fl := ((getV "_law_found").bnd fun v46 => Cm.pur (Fl.ret v46))
noncomputable def m_law_sizes_by (sn : List Int) : Cm Fl := (seqV (t_law_sizes_by_1 sn) (seqV (t_law_sizes_by_2 sn) (seqV (t_law_sizes_by_3 sn) (seqV (t_law_sizes_by_4 sn) (seqV (t_law_sizes_by_5 sn) (seqV (t_law_sizes_by_6 sn) (seqV (t_law_sizes_by_7 sn) (t_law_sizes_by_8 sn))))))))
noncomputable def f_law_sizes_by (sn : List Int) : Fc := fnV ["_law_cell", "_law_length", "_law_many"] (m_law_sizes_by sn)
theorem s_law_sizes_by (C : CxOk (Gx w hB os mg mb sa sv sn)) : FnOk (Gx w hB os mg mb sa sv sn) true 1 188 (f_law_sizes_by sn) :=
  FnOk.of C (k := 0) ⟨⟨_, _, _, rfl⟩, by kernel_rfl, rfl, rfl, rfl, rfl, (by intro vals h; obtain ⟨a0, a1, a2, rfl⟩ := len3 h; kernel_rfl), by decide +kernel, by decide, by decide +kernel, rfl, rfl, rfl⟩ fun L =>
  (Xs_cons (X_assign (.inl (by kernel_rfl)) (E_list EL_nil) rfl) (Xs_cons (X_assign (.inl (by kernel_rfl)) E_int rfl) (Xs_cons (X_assign (.inl (by kernel_rfl)) (E_bin C (E_loc (by kernel_rfl) (by kernel_rfl)) E_int P_div) rfl) (Xs_cons (X_assign (.inl (by kernel_rfl)) E_int rfl) (Xs_cons (X_if (T_cmp C (E_bin C (E_loc (by kernel_rfl) (by kernel_rfl)) E_int P_mod) E_int (by kernel_rfl)) (Xs_one (X_assign (.inl (by kernel_rfl)) (E_loc (by kernel_rfl) (by kernel_rfl)) rfl)) Xs_nil) (Xs_cons (X_for (I_range C rfl (by kernel_rfl) ns_range (EL_cons (E_loc (by kernel_rfl) (by kernel_rfl)) EL_nil (by kernel_rfl)) (by kernel_rfl)) (A_name (.inl (by kernel_rfl))) (Xs_cons (X_assign (.inl (by kernel_rfl)) (E_bin C (E_bin C (E_loc (by kernel_rfl) (by kernel_rfl)) E_int P_add) (E_bin C (E_loc (by kernel_rfl) (by kernel_rfl)) (E_loc (by kernel_rfl) (by kernel_rfl)) P_mod) P_add) rfl) (Xs_cons (X_assign (.inl (by kernel_rfl)) (E_bin C (E_loc (by kernel_rfl) (by kernel_rfl)) (E_loc (by kernel_rfl) (by kernel_rfl)) P_div) rfl) (Xs_one (X_if (T_cmp C (E_loc (by kernel_rfl) (by kernel_rfl)) (E_loc (by kernel_rfl) (by kernel_rfl)) (by kernel_rfl)) (Xs_one (X_expr (E_bm1 C true bm_append (P_append C) (E_loc (by kernel_rfl) (by kernel_rfl)) (E_loc (by kernel_rfl) (by kernel_rfl)) rfl rfl (by kernel_rfl) (by kernel_rfl) (by kernel_rfl)) rfl rfl)) Xs_nil)))) (fun _ => rfl)) (Xs_cons (X_if (T_cmp C (E_loc (by kernel_rfl) (by kernel_rfl)) (E_list EL_nil) (by kernel_rfl)) (Xs_one (X_expr (E_bm1 C true bm_append (P_append C) (E_loc (by kernel_rfl) (by kernel_rfl)) (E_loc (by kernel_rfl) (by kernel_rfl)) rfl rfl (by kernel_rfl) (by kernel_rfl) (by kernel_rfl)) rfl rfl)) Xs_nil) (Xs_one (X_ret (E_loc (by kernel_rfl) (by kernel_rfl)))))))))))
noncomputable def t_law_whole_1 (sn : List Int) : Cm Fl := ((((getV "_law_found").bnd fun v2 => isiV sn "int" v2).bnd fun v7 => (truthV v7).bnd fun b8 => if b8 then (((getV "_law_found").bnd fun v4 => isiV sn "bool" v4).bnd fun v5 => (truthV v5).bnd fun b6 => Cm.pur (V.bool (!b6))) else Cm.pur v7).bnd fun v9 => Cm.pur (Fl.ret v9))
noncomputable def m_law_whole (sn : List Int) : Cm Fl := (t_law_whole_1 sn)
noncomputable def f_law_whole (sn : List Int) : Fc := fnV ["_law_found"] (m_law_whole sn)
theorem s_law_whole (C : CxOk (Gx w hB os mg mb sa sv sn)) : FnOk (Gx w hB os mg mb sa sv sn) true 1 181 (f_law_whole sn) :=
  FnOk.of C (k := 0) ⟨⟨_, _, _, rfl⟩, by kernel_rfl, rfl, rfl, rfl, rfl, (by intro vals h; obtain ⟨a0, rfl⟩ := len1 h; kernel_rfl), by decide +kernel, by decide, by decide +kernel, rfl, rfl, rfl⟩ fun L =>
  (Xs_one (X_ret (E_boolop (EB_and (E_isi C isi_int (by kernel_rfl) ns_isinstance (by kernel_rfl) ns_int (by decide +kernel) (by decide) (by decide) (E_loc (by kernel_rfl) (by kernel_rfl)) (by kernel_rfl) (by kernel_rfl)) (EB_one (E_not (E_isi C isi_bool (by kernel_rfl) ns_isinstance (by kernel_rfl) ns_bool (by decide +kernel) (by decide) (by decide) (E_loc (by kernel_rfl) (by kernel_rfl)) (by kernel_rfl) (by kernel_rfl))))))))
noncomputable def t_law_bad_sizes_1 (sn : List Int) : Cm Fl := ((((getV "_law_cell").bnd fun v1 => (Cm.pur (V.int 7)).bnd fun v2 => divV v1 v2).bnd fun v6 => (((getV "_law_sizes").bnd fun v4 => (Cm.pur ([] : List V)).bnd fun vs5 => Cm.pur (v4 :: vs5)).bnd fun vs3 => lenV sn vs3).bnd fun v7 => modV v6 v7).bnd fun v8 => (setV "_law_at" v8).bnd fun _ => Cm.pur Fl.next)
noncomputable def t_law_bad_sizes_2 (sn : List Int) : Cm Fl := ((Cm.pur (V.int 0)).bnd fun v9 => (setV "_law_before" v9).bnd fun _ => Cm.pur Fl.next)
noncomputable def t_law_bad_sizes_3 (sn : List Int) : Cm Fl := (((getV "_law_at").bnd fun v10 => (Cm.pur (V.int 0)).bnd fun v11 => (cmpV .Gt v10 v11).bnd fun x12 => Cm.pur x12).bnd fun b18 => if b18 then (((getV "_law_sizes").bnd fun v13 => ((getV "_law_at").bnd fun v15 => (Cm.pur (V.int 1)).bnd fun v16 => subV v15 v16).bnd fun v14 => itemV sn v13 v14).bnd fun v17 => (setV "_law_before" v17).bnd fun _ => Cm.pur Fl.next) else (Cm.pur Fl.next))
noncomputable def t_law_bad_sizes_4 (sn : List Int) : Cm Fl := (((((getV "_law_before").bnd fun v47 => ((((getV "_law_before").bnd fun v19 => (Cm.pur (V.int 1)).bnd fun v20 => subV v19 v20).bnd fun v25 => (((getV "_law_cell").bnd fun v21 => (Cm.pur (V.int 49)).bnd fun v22 => divV v21 v22).bnd fun v23 => (Cm.pur (V.int 5)).bnd fun v24 => modV v23 v24).bnd fun v26 => subV v25 v26).bnd fun v45 => ((((getV "_law_length").bnd fun v27 => (Cm.pur (V.int 1)).bnd fun v28 => addV v27 v28).bnd fun v33 => (((getV "_law_cell").bnd fun v29 => (Cm.pur (V.int 49)).bnd fun v30 => divV v29 v30).bnd fun v31 => (Cm.pur (V.int 50)).bnd fun v32 => modV v31 v32).bnd fun v34 => addV v33 v34).bnd fun v43 => ((Cm.pur (V.bool true)).bnd fun v41 => ((Cm.pur (V.str "1")).bnd fun v39 => ((Cm.pur (V.int 0)).bnd fun v37 => ((Cm.pur V.none).bnd fun v35 => (Cm.pur ([] : List V)).bnd fun vs36 => Cm.pur (v35 :: vs36)).bnd fun vs38 => Cm.pur (v37 :: vs38)).bnd fun vs40 => Cm.pur (v39 :: vs40)).bnd fun vs42 => Cm.pur (v41 :: vs42)).bnd fun vs44 => Cm.pur (v43 :: vs44)).bnd fun vs46 => Cm.pur (v45 :: vs46)).bnd fun vs48 => Cm.pur (v47 :: vs48)).bnd fun vs49 => newL vs49).bnd fun v50 => ((getV "_law_cell").bnd fun v52 => (Cm.pur (V.int 7)).bnd fun v53 => modV v52 v53).bnd fun v51 => itemV sn v50 v51).bnd fun v54 => (setV "_law_wrong_here" v54).bnd fun _ => Cm.pur Fl.next)
noncomputable def t_law_bad_sizes_5 (sn : List Int) : Cm Fl := (((((getV "_law_sizes").bnd fun v55 => (getV "_law_at").bnd fun v56 => takeV sn v55 v56).bnd fun v60 => (((getV "_law_wrong_here").bnd fun v57 => (Cm.pur ([] : List V)).bnd fun vs58 => Cm.pur (v57 :: vs58)).bnd fun vs59 => newL vs59).bnd fun v61 => addV v60 v61).bnd fun v66 => ((getV "_law_sizes").bnd fun v62 => ((getV "_law_at").bnd fun v64 => (Cm.pur (V.int 1)).bnd fun v65 => addV v64 v65).bnd fun v63 => dropV sn v62 v63).bnd fun v67 => addV v66 v67).bnd fun v68 => Cm.pur (Fl.ret v68))
noncomputable def m_law_bad_sizes (sn : List Int) : Cm Fl := (seqV (t_law_bad_sizes_1 sn) (seqV (t_law_bad_sizes_2 sn) (seqV (t_law_bad_sizes_3 sn) (seqV (t_law_bad_sizes_4 sn) (t_law_bad_sizes_5 sn)))))
noncomputable def f_law_bad_sizes (sn : List Int) : Fc := fnV ["_law_sizes", "_law_length", "_law_cell"] (m_law_bad_sizes sn)
theorem s_law_bad_sizes (C : CxOk (Gx w hB os mg mb sa sv sn)) : FnOk (Gx w hB os mg mb sa sv sn) true 1 202 (f_law_bad_sizes sn) :=
  FnOk.of C (k := 0) ⟨⟨_, _, _, rfl⟩, by kernel_rfl, rfl, rfl, rfl, rfl, (by intro vals h; obtain ⟨a0, a1, a2, rfl⟩ := len3 h; kernel_rfl), by decide +kernel, by decide, by decide +kernel, rfl, rfl, rfl⟩ fun L =>
  (Xs_cons (X_assign (.inl (by kernel_rfl)) (E_bin C (E_bin C (E_loc (by kernel_rfl) (by kernel_rfl)) E_int P_div) (E_blt (bv := (.builtin "len")) C (by kernel_rfl) ns_len (by decide +kernel) (by decide) (by decide) (callsBy_builtin _) (EL_cons (E_loc (by kernel_rfl) (by kernel_rfl)) EL_nil (by kernel_rfl)) (by kernel_rfl) (fun A ι q s vs cvs ha R hv => P_len C R hv)) P_mod) rfl) (Xs_cons (X_assign (.inl (by kernel_rfl)) E_int rfl) (Xs_cons (X_if (T_cmp C (E_loc (by kernel_rfl) (by kernel_rfl)) E_int (by kernel_rfl)) (Xs_one (X_assign (.inl (by kernel_rfl)) (E_sub C (E_loc (by kernel_rfl) (by kernel_rfl)) (E_bin C (E_loc (by kernel_rfl) (by kernel_rfl)) E_int P_sub) (fun _ _ => rfl)) rfl)) Xs_nil) (Xs_cons (X_assign (.inl (by kernel_rfl)) (E_sub C (E_list (EL_cons (E_loc (by kernel_rfl) (by kernel_rfl)) (EL_cons (E_bin C (E_bin C (E_loc (by kernel_rfl) (by kernel_rfl)) E_int P_sub) (E_bin C (E_bin C (E_loc (by kernel_rfl) (by kernel_rfl)) E_int P_div) E_int P_mod) P_sub) (EL_cons (E_bin C (E_bin C (E_loc (by kernel_rfl) (by kernel_rfl)) E_int P_add) (E_bin C (E_bin C (E_loc (by kernel_rfl) (by kernel_rfl)) E_int P_div) E_int P_mod) P_add) (EL_cons E_bool (EL_cons E_str (EL_cons E_int (EL_cons E_none EL_nil (by kernel_rfl)) (by kernel_rfl)) (by kernel_rfl)) (by kernel_rfl)) (by kernel_rfl)) (by kernel_rfl)) (by kernel_rfl))) (E_bin C (E_loc (by kernel_rfl) (by kernel_rfl)) E_int P_mod) (fun _ _ => rfl)) rfl) (Xs_one (X_ret (E_bin C (E_bin C (E_take C (E_loc (by kernel_rfl) (by kernel_rfl)) (E_loc (by kernel_rfl) (by kernel_rfl))) (E_list (EL_cons (E_loc (by kernel_rfl) (by kernel_rfl)) EL_nil (by kernel_rfl))) P_add) (E_drop C (E_loc (by kernel_rfl) (by kernel_rfl)) (E_bin C (E_loc (by kernel_rfl) (by kernel_rfl)) E_int P_add)) P_add)))))))
noncomputable def t_law_wrong_1 (sn : List Int) : Cm Fl := (((getV "_law_cell").bnd fun v1 => (Cm.pur (V.int 4)).bnd fun v2 => divV v1 v2).bnd fun v3 => (setV "_law_more" v3).bnd fun _ => Cm.pur Fl.next)
noncomputable def t_law_wrong_2 (sn : List Int) : Cm Fl := ((((getV "_law_cell").bnd fun v4 => (Cm.pur (V.int 4)).bnd fun v5 => modV v4 v5).bnd fun v6 => (Cm.pur (V.int 1)).bnd fun v7 => (cmpV .Eq v6 v7).bnd fun x8 => Cm.pur x8).bnd fun b37 => if b37 then (((((((Cm.pur (V.int 0)).bnd fun v22 => (((getV "_law_more").bnd fun v9 => negV v9).bnd fun v20 => (((Cm.pur (V.int 41)).bnd fun v10 => (getV "_law_more").bnd fun v11 => addV v10 v11).bnd fun v18 => ((Cm.pur (V.bool true)).bnd fun v16 => ((Cm.pur (V.str "3")).bnd fun v14 => ((Cm.pur V.none).bnd fun v12 => (Cm.pur ([] : List V)).bnd fun vs13 => Cm.pur (v12 :: vs13)).bnd fun vs15 => Cm.pur (v14 :: vs15)).bnd fun vs17 => Cm.pur (v16 :: vs17)).bnd fun vs19 => Cm.pur (v18 :: vs19)).bnd fun vs21 => Cm.pur (v20 :: vs21)).bnd fun vs23 => Cm.pur (v22 :: vs23)).bnd fun vs24 => newL vs24).bnd fun v25 => ((getV "_law_more").bnd fun v27 => (Cm.pur (V.int 6)).bnd fun v28 => modV v27 v28).bnd fun v26 => itemV sn v25 v26).bnd fun v33 => ((getV "_law_length").bnd fun v31 => ((getV "_law_sizes").bnd fun v29 => (Cm.pur ([] : List V)).bnd fun vs30 => Cm.pur (v29 :: vs30)).bnd fun vs32 => Cm.pur (v31 :: vs32)).bnd fun vs34 => Cm.pur (v33 :: vs34)).bnd fun vs35 => newT vs35).bnd fun v36 => Cm.pur (Fl.ret v36)) else (Cm.pur Fl.next))
noncomputable def t_law_wrong_3 (sn : List Int) : Cm Fl := ((((getV "_law_cell").bnd fun v38 => (Cm.pur (V.int 4)).bnd fun v39 => modV v38 v39).bnd fun v40 => (Cm.pur (V.int 2)).bnd fun v41 => (cmpV .Eq v40 v41).bnd fun x42 => Cm.pur x42).bnd fun b71 => if b71 then ((((getV "_law_pages").bnd fun v67 => (((((Cm.pur (V.int 0)).bnd fun v56 => (((getV "_law_more").bnd fun v43 => negV v43).bnd fun v54 => (((Cm.pur (V.int 61)).bnd fun v44 => (getV "_law_more").bnd fun v45 => addV v44 v45).bnd fun v52 => ((Cm.pur (V.bool true)).bnd fun v50 => ((Cm.pur (V.str "3")).bnd fun v48 => ((Cm.pur V.none).bnd fun v46 => (Cm.pur ([] : List V)).bnd fun vs47 => Cm.pur (v46 :: vs47)).bnd fun vs49 => Cm.pur (v48 :: vs49)).bnd fun vs51 => Cm.pur (v50 :: vs51)).bnd fun vs53 => Cm.pur (v52 :: vs53)).bnd fun vs55 => Cm.pur (v54 :: vs55)).bnd fun vs57 => Cm.pur (v56 :: vs57)).bnd fun vs58 => newL vs58).bnd fun v59 => ((getV "_law_more").bnd fun v61 => (Cm.pur (V.int 6)).bnd fun v62 => modV v61 v62).bnd fun v60 => itemV sn v59 v60).bnd fun v65 => ((getV "_law_sizes").bnd fun v63 => (Cm.pur ([] : List V)).bnd fun vs64 => Cm.pur (v63 :: vs64)).bnd fun vs66 => Cm.pur (v65 :: vs66)).bnd fun vs68 => Cm.pur (v67 :: vs68)).bnd fun vs69 => newT vs69).bnd fun v70 => Cm.pur (Fl.ret v70)) else (Cm.pur Fl.next))
noncomputable def t_law_wrong_4 (sn : List Int) : Cm Fl := ((((getV "_law_more").bnd fun v72 => (Cm.pur (V.int 2)).bnd fun v73 => modV v72 v73).bnd fun v74 => (Cm.pur (V.int 0)).bnd fun v75 => (cmpV .Eq v74 v75).bnd fun x76 => Cm.pur x76).bnd fun b116 => if b116 then ((((getV "_law_pages").bnd fun v112 => ((Cm.pur (V.int 60)).bnd fun v110 => ((((((Cm.pur ([] : List V)).bnd fun vs77 => newL vs77).bnd fun v99 => ((((Cm.pur (V.int 1)).bnd fun v81 => ((Cm.pur (V.int 10)).bnd fun v79 => (Cm.pur ([] : List V)).bnd fun vs80 => Cm.pur (v79 :: vs80)).bnd fun vs82 => Cm.pur (v81 :: vs82)).bnd fun vs78 => rangeLV vs78).bnd fun v97 => ((Cm.pur (V.str "1")).bnd fun v95 => ((Cm.pur V.none).bnd fun v93 => ((((getV "_law_sizes").bnd fun v84 => (Cm.pur ([] : List V)).bnd fun vs85 => Cm.pur (v84 :: vs85)).bnd fun vs83 => tupleOfV sn vs83).bnd fun v91 => ((((getV "_law_sizes").bnd fun v87 => (Cm.pur ([] : List V)).bnd fun vs88 => Cm.pur (v87 :: vs88)).bnd fun vs86 => tupleOfV sn vs86).bnd fun v89 => (Cm.pur ([] : List V)).bnd fun vs90 => Cm.pur (v89 :: vs90)).bnd fun vs92 => Cm.pur (v91 :: vs92)).bnd fun vs94 => Cm.pur (v93 :: vs94)).bnd fun vs96 => Cm.pur (v95 :: vs96)).bnd fun vs98 => Cm.pur (v97 :: vs98)).bnd fun vs100 => Cm.pur (v99 :: vs100)).bnd fun vs101 => newL vs101).bnd fun v102 => (((getV "_law_more").bnd fun v104 => (Cm.pur (V.int 2)).bnd fun v105 => divV v104 v105).bnd fun v106 => (Cm.pur (V.int 6)).bnd fun v107 => modV v106 v107).bnd fun v103 => itemV sn v102 v103).bnd fun v108 => (Cm.pur ([] : List V)).bnd fun vs109 => Cm.pur (v108 :: vs109)).bnd fun vs111 => Cm.pur (v110 :: vs111)).bnd fun vs113 => Cm.pur (v112 :: vs113)).bnd fun vs114 => newT vs114).bnd fun v115 => Cm.pur (Fl.ret v115)) else (Cm.pur Fl.next))
noncomputable def t_law_wrong_5 (sn : List Int) : Cm Fl := ((((getV "_law_pages").bnd fun v130 => ((getV "_law_length").bnd fun v128 => ((((getV "_law_sizes").bnd fun v124 => ((getV "_law_length").bnd fun v122 => (((getV "_law_more").bnd fun v118 => (Cm.pur (V.int 2)).bnd fun v119 => divV v118 v119).bnd fun v120 => (Cm.pur ([] : List V)).bnd fun vs121 => Cm.pur (v120 :: vs121)).bnd fun vs123 => Cm.pur (v122 :: vs123)).bnd fun vs125 => Cm.pur (v124 :: vs125)).bnd fun vs117 => callF (f_law_bad_sizes sn) vs117).bnd fun v126 => (Cm.pur ([] : List V)).bnd fun vs127 => Cm.pur (v126 :: vs127)).bnd fun vs129 => Cm.pur (v128 :: vs129)).bnd fun vs131 => Cm.pur (v130 :: vs131)).bnd fun vs132 => newT vs132).bnd fun v133 => Cm.pur (Fl.ret v133))
noncomputable def m_law_wrong (sn : List Int) : Cm Fl := (seqV (t_law_wrong_1 sn) (seqV (t_law_wrong_2 sn) (seqV (t_law_wrong_3 sn) (seqV (t_law_wrong_4 sn) (t_law_wrong_5 sn)))))
noncomputable def f_law_wrong (sn : List Int) : Fc := fnV ["_law_pages", "_law_length", "_law_sizes", "_law_cell"] (m_law_wrong sn)
theorem s_law_wrong (C : CxOk (Gx w hB os mg mb sa sv sn)) : FnOk (Gx w hB os mg mb sa sv sn) true 2 209 (f_law_wrong sn) :=
  FnOk.of C (k := 1) ⟨⟨_, _, _, rfl⟩, by kernel_rfl, rfl, rfl, rfl, rfl, (by intro vals h; obtain ⟨a0, a1, a2, a3, rfl⟩ := len4 h; kernel_rfl), by decide +kernel, by decide, by decide +kernel, rfl, rfl, rfl⟩ fun L =>
  (Xs_cons (X_assign (.inl (by kernel_rfl)) (E_bin C (E_loc (by kernel_rfl) (by kernel_rfl)) E_int P_div) rfl) (Xs_cons (X_if (T_cmp C (E_bin C (E_loc (by kernel_rfl) (by kernel_rfl)) E_int P_mod) E_int (by kernel_rfl)) (Xs_one (X_ret (E_tuple (EL_cons (E_sub C (E_list (EL_cons E_int (EL_cons (E_neg (E_loc (by kernel_rfl) (by kernel_rfl))) (EL_cons (E_bin C E_int (E_loc (by kernel_rfl) (by kernel_rfl)) P_add) (EL_cons E_bool (EL_cons E_str (EL_cons E_none EL_nil (by kernel_rfl)) (by kernel_rfl)) (by kernel_rfl)) (by kernel_rfl)) (by kernel_rfl)) (by kernel_rfl))) (E_bin C (E_loc (by kernel_rfl) (by kernel_rfl)) E_int P_mod) (fun _ _ => rfl)) (EL_cons (E_loc (by kernel_rfl) (by kernel_rfl)) (EL_cons (E_loc (by kernel_rfl) (by kernel_rfl)) EL_nil (by kernel_rfl)) (by kernel_rfl)) (by kernel_rfl))))) Xs_nil) (Xs_cons (X_if (T_cmp C (E_bin C (E_loc (by kernel_rfl) (by kernel_rfl)) E_int P_mod) E_int (by kernel_rfl)) (Xs_one (X_ret (E_tuple (EL_cons (E_loc (by kernel_rfl) (by kernel_rfl)) (EL_cons (E_sub C (E_list (EL_cons E_int (EL_cons (E_neg (E_loc (by kernel_rfl) (by kernel_rfl))) (EL_cons (E_bin C E_int (E_loc (by kernel_rfl) (by kernel_rfl)) P_add) (EL_cons E_bool (EL_cons E_str (EL_cons E_none EL_nil (by kernel_rfl)) (by kernel_rfl)) (by kernel_rfl)) (by kernel_rfl)) (by kernel_rfl)) (by kernel_rfl))) (E_bin C (E_loc (by kernel_rfl) (by kernel_rfl)) E_int P_mod) (fun _ _ => rfl)) (EL_cons (E_loc (by kernel_rfl) (by kernel_rfl)) EL_nil (by kernel_rfl)) (by kernel_rfl)) (by kernel_rfl))))) Xs_nil) (Xs_cons (X_if (T_cmp C (E_bin C (E_loc (by kernel_rfl) (by kernel_rfl)) E_int P_mod) E_int (by kernel_rfl)) (Xs_one (X_ret (E_tuple (EL_cons (E_loc (by kernel_rfl) (by kernel_rfl)) (EL_cons E_int (EL_cons (E_sub C (E_list (EL_cons (E_list EL_nil) (EL_cons (E_rangeL C rfl (by kernel_rfl) ns_list (by kernel_rfl) ns_range (EL_cons E_int (EL_cons E_int EL_nil (by kernel_rfl)) (by kernel_rfl)) (by kernel_rfl) (by kernel_rfl) (by kernel_rfl)) (EL_cons E_str (EL_cons E_none (EL_cons (E_blt (bv := (.type "tuple")) C (by kernel_rfl) ns_tuple (by decide +kernel) (by decide) (by decide) (callsBy_type _) (EL_cons (E_loc (by kernel_rfl) (by kernel_rfl)) EL_nil (by kernel_rfl)) (by kernel_rfl) (fun A ι q s vs cvs ha R hv => P_tupleOf C R hv)) (EL_cons (E_blt (bv := (.type "tuple")) C (by kernel_rfl) ns_tuple (by decide +kernel) (by decide) (by decide) (callsBy_type _) (EL_cons (E_loc (by kernel_rfl) (by kernel_rfl)) EL_nil (by kernel_rfl)) (by kernel_rfl) (fun A ι q s vs cvs ha R hv => P_tupleOf C R hv)) EL_nil (by kernel_rfl)) (by kernel_rfl)) (by kernel_rfl)) (by kernel_rfl)) (by kernel_rfl)) (by kernel_rfl))) (E_bin C (E_bin C (E_loc (by kernel_rfl) (by kernel_rfl)) E_int P_div) E_int P_mod) (fun _ _ => rfl)) EL_nil (by kernel_rfl)) (by kernel_rfl)) (by kernel_rfl))))) Xs_nil) (Xs_one (X_ret (E_tuple (EL_cons (E_loc (by kernel_rfl) (by kernel_rfl)) (EL_cons (E_loc (by kernel_rfl) (by kernel_rfl)) (EL_cons (E_call C (by kernel_rfl) ns__law_bad_sizes (by kernel_rfl) (by kernel_rfl) (s_law_bad_sizes C) (by decide) (EL_cons (E_loc (by kernel_rfl) (by kernel_rfl)) (EL_cons (E_loc (by kernel_rfl) (by kernel_rfl)) (EL_cons (E_bin C (E_loc (by kernel_rfl) (by kernel_rfl)) E_int P_div) EL_nil (by kernel_rfl)) (by kernel_rfl)) (by kernel_rfl)) (by kernel_rfl)) EL_nil (by kernel_rfl)) (by kernel_rfl)) (by kernel_rfl)))))))))
noncomputable def t_law_1 (sn : List Int) : Cm Fl := (((Cm.pur (V.int 1)).bnd fun v8 => ((((getV "_law_script").bnd fun v4 => ((Cm.pur (V.int 0)).bnd fun v2 => (Cm.pur ([] : List V)).bnd fun vs3 => Cm.pur (v2 :: vs3)).bnd fun vs5 => Cm.pur (v4 :: vs5)).bnd fun vs1 => callF (f_law_cell_at sn) vs1).bnd fun v6 => (Cm.pur (V.int 40)).bnd fun v7 => modV v6 v7).bnd fun v9 => addV v8 v9).bnd fun v10 => (setV "_law_pages" v10).bnd fun _ => Cm.pur Fl.next)
noncomputable def t_law_2 (sn : List Int) : Cm Fl := (((Cm.pur (V.int 1)).bnd fun v18 => ((((getV "_law_script").bnd fun v14 => ((Cm.pur (V.int 1)).bnd fun v12 => (Cm.pur ([] : List V)).bnd fun vs13 => Cm.pur (v12 :: vs13)).bnd fun vs15 => Cm.pur (v14 :: vs15)).bnd fun vs11 => callF (f_law_cell_at sn) vs11).bnd fun v16 => (Cm.pur (V.int 60)).bnd fun v17 => modV v16 v17).bnd fun v19 => addV v18 v19).bnd fun v20 => (setV "_law_length" v20).bnd fun _ => Cm.pur Fl.next)
noncomputable def t_law_3 (sn : List Int) : Cm Fl := ((((((getV "_law_script").bnd fun v25 => ((Cm.pur (V.int 2)).bnd fun v23 => (Cm.pur ([] : List V)).bnd fun vs24 => Cm.pur (v23 :: vs24)).bnd fun vs26 => Cm.pur (v25 :: vs26)).bnd fun vs22 => callF (f_law_cell_at sn) vs22).bnd fun v40 => ((getV "_law_length").bnd fun v38 => (((Cm.pur (V.int 1)).bnd fun v34 => ((((getV "_law_script").bnd fun v30 => ((Cm.pur (V.int 3)).bnd fun v28 => (Cm.pur ([] : List V)).bnd fun vs29 => Cm.pur (v28 :: vs29)).bnd fun vs31 => Cm.pur (v30 :: vs31)).bnd fun vs27 => callF (f_law_cell_at sn) vs27).bnd fun v32 => (Cm.pur (V.int 8)).bnd fun v33 => modV v32 v33).bnd fun v35 => addV v34 v35).bnd fun v36 => (Cm.pur ([] : List V)).bnd fun vs37 => Cm.pur (v36 :: vs37)).bnd fun vs39 => Cm.pur (v38 :: vs39)).bnd fun vs41 => Cm.pur (v40 :: vs41)).bnd fun vs21 => callF (f_law_sizes_by sn) vs21).bnd fun v42 => (setV "_law_sizes" v42).bnd fun _ => Cm.pur Fl.next)
noncomputable def t_law_4 (sn : List Int) : Cm Fl := (((((getV "_law_script").bnd fun v46 => ((Cm.pur (V.int 4)).bnd fun v44 => (Cm.pur ([] : List V)).bnd fun vs45 => Cm.pur (v44 :: vs45)).bnd fun vs47 => Cm.pur (v46 :: vs47)).bnd fun vs43 => callF (f_law_cell_at sn) vs43).bnd fun v48 => (Cm.pur (V.int 4000)).bnd fun v49 => modV v48 v49).bnd fun v50 => (setV "_law_kind" v50).bnd fun _ => Cm.pur Fl.next)
noncomputable def t_law_5 (sn : List Int) : Cm Fl := ((((getV "_law_kind").bnd fun v51 => (Cm.pur (V.int 4)).bnd fun v52 => modV v51 v52).bnd fun v53 => (Cm.pur (V.int 0)).bnd fun v54 => (cmpV .Gt v53 v54).bnd fun x55 => Cm.pur x55).bnd fun b87 => if b87 then (seqV ((((getV "_law_pages").bnd fun v63 => ((getV "_law_length").bnd fun v61 => ((getV "_law_sizes").bnd fun v59 => ((getV "_law_kind").bnd fun v57 => (Cm.pur ([] : List V)).bnd fun vs58 => Cm.pur (v57 :: vs58)).bnd fun vs60 => Cm.pur (v59 :: vs60)).bnd fun vs62 => Cm.pur (v61 :: vs62)).bnd fun vs64 => Cm.pur (v63 :: vs64)).bnd fun vs56 => callF (f_law_wrong sn) vs56).bnd fun v65 => (setV "_law_wrong_here" v65).bnd fun _ => Cm.pur Fl.next) (((((getV "_law_wrong_here").bnd fun v67 => (Cm.pur (V.int 0)).bnd fun v68 => itemV sn v67 v68).bnd fun v84 => (((getV "_law_wrong_here").bnd fun v69 => (Cm.pur (V.int 1)).bnd fun v70 => itemV sn v69 v70).bnd fun v82 => (((getV "_law_wrong_here").bnd fun v71 => (Cm.pur (V.int 2)).bnd fun v72 => itemV sn v71 v72).bnd fun v80 => ((((getV "_law_script").bnd fun v76 => ((Cm.pur (V.int 5)).bnd fun v74 => (Cm.pur ([] : List V)).bnd fun vs75 => Cm.pur (v74 :: vs75)).bnd fun vs77 => Cm.pur (v76 :: vs77)).bnd fun vs73 => callF (f_law_cell_at sn) vs73).bnd fun v78 => (Cm.pur ([] : List V)).bnd fun vs79 => Cm.pur (v78 :: vs79)).bnd fun vs81 => Cm.pur (v80 :: vs81)).bnd fun vs83 => Cm.pur (v82 :: vs83)).bnd fun vs85 => Cm.pur (v84 :: vs85)).bnd fun vs66 => callF (f_law_refused sn) vs66).bnd fun v86 => Cm.pur (Fl.ret v86))) else (Cm.pur Fl.next))
noncomputable def t_law_6 (sn : List Int) : Cm Fl := ((((getV "_law_sizes").bnd fun v89 => (Cm.pur ([] : List V)).bnd fun vs90 => Cm.pur (v89 :: vs90)).bnd fun vs88 => listOfV sn vs88).bnd fun v91 => (setV "_law_handed" v91).bnd fun _ => Cm.pur Fl.next)
noncomputable def t_law_7 (sn : List Int) : Cm Fl := ((((getV "_law_pages").bnd fun v97 => ((getV "_law_length").bnd fun v95 => ((getV "_law_handed").bnd fun v93 => (Cm.pur ([] : List V)).bnd fun vs94 => Cm.pur (v93 :: vs94)).bnd fun vs96 => Cm.pur (v95 :: vs96)).bnd fun vs98 => Cm.pur (v97 :: vs98)).bnd fun vs92 => makeV "Plan" (f_Plan_init sn) vs92).bnd fun v99 => (setV "_law_plan" v99).bnd fun _ => Cm.pur Fl.next)
noncomputable def t_law_8 (sn : List Int) : Cm Fl := ((((getV "_law_handed").bnd fun v100 => (getV "_law_sizes").bnd fun v101 => (cmpV .NotEq v100 v101).bnd fun x102 => Cm.pur x102).bnd fun b115 => if b115 then Cm.pur true else (((Cm.pur (V.int 40)).bnd fun v103 => (Cm.pur (V.int 40)).bnd fun v104 => (cmpV .NotEq v103 v104).bnd fun x105 => Cm.pur x105).bnd fun b114 => if b114 then Cm.pur true else (((Cm.pur (V.int 60)).bnd fun v106 => (Cm.pur (V.int 60)).bnd fun v107 => (cmpV .NotEq v106 v107).bnd fun x108 => Cm.pur x108).bnd fun b113 => if b113 then Cm.pur true else (((Cm.pur (V.int 8)).bnd fun v109 => (Cm.pur (V.int 8)).bnd fun v110 => (cmpV .NotEq v109 v110).bnd fun x111 => Cm.pur x111).bnd fun b112 => if b112 then Cm.pur true else (Cm.pur false))))).bnd fun b117 => if b117 then ((Cm.pur (V.bool false)).bnd fun v116 => Cm.pur (Fl.ret v116)) else (Cm.pur Fl.next))
noncomputable def t_law_9 (sn : List Int) : Cm Fl := (((getV "_law_handed").bnd fun v119 => (kindV v119).bnd fun kd122 => if kd122 = true then ((getV "_law_length").bnd fun v120 => (Cm.pur (V.int 1)).bnd fun v121 => addV v120 v121).bnd fun v123 => appendV v119 v123 else Cm.stk).bnd fun _ => Cm.pur Fl.next)
noncomputable def t_law_10 (sn : List Int) : Cm Fl := ((((((((getV "_law_plan").bnd fun v125 => attrV "pages" v125).bnd fun v126 => (Cm.pur ([] : List V)).bnd fun vs127 => Cm.pur (v126 :: vs127)).bnd fun vs124 => callF (f_law_whole sn) vs124).bnd fun v128 => truthV v128).bnd fun b129 => Cm.pur (!b129)).bnd fun b143 => if b143 then Cm.pur true else (((((((getV "_law_plan").bnd fun v131 => attrV "length" v131).bnd fun v132 => (Cm.pur ([] : List V)).bnd fun vs133 => Cm.pur (v132 :: vs133)).bnd fun vs130 => callF (f_law_whole sn) vs130).bnd fun v134 => truthV v134).bnd fun b135 => Cm.pur (!b135)).bnd fun b142 => if b142 then Cm.pur true else ((((((getV "_law_plan").bnd fun v137 => attrV "sizes" v137).bnd fun v138 => isiV sn "list" v138).bnd fun v139 => truthV v139).bnd fun b140 => Cm.pur (!b140)).bnd fun b141 => if b141 then Cm.pur true else (Cm.pur false)))).bnd fun b145 => if b145 then ((Cm.pur (V.bool false)).bnd fun v144 => Cm.pur (Fl.ret v144)) else (Cm.pur Fl.next))
noncomputable def t_law_11 (sn : List Int) : Cm Fl := (((((getV "_law_plan").bnd fun v146 => attrV "pages" v146).bnd fun v147 => (getV "_law_pages").bnd fun v148 => (cmpV .Eq v147 v148).bnd fun x149 => Cm.pur (V.bool x149)).bnd fun v160 => (truthV v160).bnd fun b161 => if b161 then ((((getV "_law_plan").bnd fun v150 => attrV "length" v150).bnd fun v151 => (getV "_law_length").bnd fun v152 => (cmpV .Eq v151 v152).bnd fun x153 => Cm.pur (V.bool x153)).bnd fun v158 => (truthV v158).bnd fun b159 => if b159 then (((getV "_law_plan").bnd fun v154 => attrV "sizes" v154).bnd fun v155 => (getV "_law_sizes").bnd fun v156 => (cmpV .Eq v155 v156).bnd fun x157 => Cm.pur (V.bool x157)) else Cm.pur v158) else Cm.pur v160).bnd fun v162 => Cm.pur (Fl.ret v162))
noncomputable def m_law (sn : List Int) : Cm Fl := (seqV (t_law_1 sn) (seqV (t_law_2 sn) (seqV (t_law_3 sn) (seqV (t_law_4 sn) (seqV (t_law_5 sn) (seqV (t_law_6 sn) (seqV (t_law_7 sn) (seqV (t_law_8 sn) (seqV (t_law_9 sn) (seqV (t_law_10 sn) (t_law_11 sn)))))))))))
noncomputable def f_law (sn : List Int) : Fc := fnV ["_law_script"] (m_law sn)
theorem s_law (C : CxOk (Gx w hB os mg mb sa sv sn)) : FnOk (Gx w hB os mg mb sa sv sn) true 6 216 (f_law sn) :=
  FnOk.of C (k := 5) ⟨⟨_, _, _, rfl⟩, by kernel_rfl, rfl, rfl, rfl, rfl, (by intro vals h; obtain ⟨a0, rfl⟩ := len1 h; kernel_rfl), by decide +kernel, by decide, by decide +kernel, rfl, rfl, rfl⟩ fun L =>
  (Xs_cons (X_assign (.inl (by kernel_rfl)) (E_bin C E_int (E_bin C (E_call C (by kernel_rfl) ns__law_cell_at (by kernel_rfl) (by kernel_rfl) (s_law_cell_at C) (by decide) (EL_cons (E_loc (by kernel_rfl) (by kernel_rfl)) (EL_cons E_int EL_nil (by kernel_rfl)) (by kernel_rfl)) (by kernel_rfl)) E_int P_mod) P_add) rfl) (Xs_cons (X_assign (.inl (by kernel_rfl)) (E_bin C E_int (E_bin C (E_call C (by kernel_rfl) ns__law_cell_at (by kernel_rfl) (by kernel_rfl) (s_law_cell_at C) (by decide) (EL_cons (E_loc (by kernel_rfl) (by kernel_rfl)) (EL_cons E_int EL_nil (by kernel_rfl)) (by kernel_rfl)) (by kernel_rfl)) E_int P_mod) P_add) rfl) (Xs_cons (X_assign (.inl (by kernel_rfl)) (E_call C (by kernel_rfl) ns__law_sizes_by (by kernel_rfl) (by kernel_rfl) (s_law_sizes_by C) (by decide) (EL_cons (E_call C (by kernel_rfl) ns__law_cell_at (by kernel_rfl) (by kernel_rfl) (s_law_cell_at C) (by decide) (EL_cons (E_loc (by kernel_rfl) (by kernel_rfl)) (EL_cons E_int EL_nil (by kernel_rfl)) (by kernel_rfl)) (by kernel_rfl)) (EL_cons (E_loc (by kernel_rfl) (by kernel_rfl)) (EL_cons (E_bin C E_int (E_bin C (E_call C (by kernel_rfl) ns__law_cell_at (by kernel_rfl) (by kernel_rfl) (s_law_cell_at C) (by decide) (EL_cons (E_loc (by kernel_rfl) (by kernel_rfl)) (EL_cons E_int EL_nil (by kernel_rfl)) (by kernel_rfl)) (by kernel_rfl)) E_int P_mod) P_add) EL_nil (by kernel_rfl)) (by kernel_rfl)) (by kernel_rfl)) (by kernel_rfl)) rfl) (Xs_cons (X_assign (.inl (by kernel_rfl)) (E_bin C (E_call C (by kernel_rfl) ns__law_cell_at (by kernel_rfl) (by kernel_rfl) (s_law_cell_at C) (by decide) (EL_cons (E_loc (by kernel_rfl) (by kernel_rfl)) (EL_cons E_int EL_nil (by kernel_rfl)) (by kernel_rfl)) (by kernel_rfl)) E_int P_mod) rfl) (Xs_cons (X_if (T_cmp C (E_bin C (E_loc (by kernel_rfl) (by kernel_rfl)) E_int P_mod) E_int (by kernel_rfl)) (Xs_cons (X_assign (.inl (by kernel_rfl)) (E_call C (by kernel_rfl) ns__law_wrong (by kernel_rfl) (by kernel_rfl) (s_law_wrong C) (by decide) (EL_cons (E_loc (by kernel_rfl) (by kernel_rfl)) (EL_cons (E_loc (by kernel_rfl) (by kernel_rfl)) (EL_cons (E_loc (by kernel_rfl) (by kernel_rfl)) (EL_cons (E_loc (by kernel_rfl) (by kernel_rfl)) EL_nil (by kernel_rfl)) (by kernel_rfl)) (by kernel_rfl)) (by kernel_rfl)) (by kernel_rfl)) rfl) (Xs_one (X_ret (E_call C (by kernel_rfl) ns__law_refused (by kernel_rfl) (by kernel_rfl) (s_law_refused C) (by decide) (EL_cons (E_sub C (E_loc (by kernel_rfl) (by kernel_rfl)) E_int (fun _ _ => rfl)) (EL_cons (E_sub C (E_loc (by kernel_rfl) (by kernel_rfl)) E_int (fun _ _ => rfl)) (EL_cons (E_sub C (E_loc (by kernel_rfl) (by kernel_rfl)) E_int (fun _ _ => rfl)) (EL_cons (E_call C (by kernel_rfl) ns__law_cell_at (by kernel_rfl) (by kernel_rfl) (s_law_cell_at C) (by decide) (EL_cons (E_loc (by kernel_rfl) (by kernel_rfl)) (EL_cons E_int EL_nil (by kernel_rfl)) (by kernel_rfl)) (by kernel_rfl)) EL_nil (by kernel_rfl)) (by kernel_rfl)) (by kernel_rfl)) (by kernel_rfl)) (by kernel_rfl))))) Xs_nil) (Xs_cons (X_assign (.inl (by kernel_rfl)) (E_blt (bv := (.type "list")) C (by kernel_rfl) ns_list (by decide +kernel) (by decide) (by decide) (callsBy_type _) (EL_cons (E_loc (by kernel_rfl) (by kernel_rfl)) EL_nil (by kernel_rfl)) (by kernel_rfl) (fun A ι q s vs cvs ha R hv => P_listOf C R hv)) rfl) (Xs_cons (X_assign (.inl (by kernel_rfl)) (E_make C (by kernel_rfl) ns_Plan keep_Plan (by kernel_rfl) (by kernel_rfl) makes_Plan init_Plan (by kernel_rfl) (s_Plan_init C) (by decide) (EL_cons (E_loc (by kernel_rfl) (by kernel_rfl)) (EL_cons (E_loc (by kernel_rfl) (by kernel_rfl)) (EL_cons (E_loc (by kernel_rfl) (by kernel_rfl)) EL_nil (by kernel_rfl)) (by kernel_rfl)) (by kernel_rfl)) (by kernel_rfl)) rfl) (Xs_cons (X_if (T_bool (TA_or (T_cmp C (E_loc (by kernel_rfl) (by kernel_rfl)) (E_loc (by kernel_rfl) (by kernel_rfl)) (by kernel_rfl)) (TA_or (T_cmp C (E_gint C (by kernel_rfl) ns_MOST_PAGES (by kernel_rfl)) E_int (by kernel_rfl)) (TA_or (T_cmp C (E_gint C (by kernel_rfl) ns_MOST_LENGTH (by kernel_rfl)) E_int (by kernel_rfl)) (TA_or (T_cmp C (E_gint C (by kernel_rfl) ns_MOST_SIZES (by kernel_rfl)) E_int (by kernel_rfl)) TA_or0))))) (Xs_one (X_ret E_bool)) Xs_nil) (Xs_cons (X_expr (E_bm1 C true bm_append (P_append C) (E_loc (by kernel_rfl) (by kernel_rfl)) (E_bin C (E_loc (by kernel_rfl) (by kernel_rfl)) E_int P_add) rfl rfl (by kernel_rfl) (by kernel_rfl) (by kernel_rfl)) rfl rfl) (Xs_cons (X_if (T_bool (TA_or (T_not (T_val (E_call C (by kernel_rfl) ns__law_whole (by kernel_rfl) (by kernel_rfl) (s_law_whole C) (by decide) (EL_cons (E_attr C hasF_pages (E_loc (by kernel_rfl) (by kernel_rfl)) rfl) EL_nil (by kernel_rfl)) (by kernel_rfl)) rfl)) (TA_or (T_not (T_val (E_call C (by kernel_rfl) ns__law_whole (by kernel_rfl) (by kernel_rfl) (s_law_whole C) (by decide) (EL_cons (E_attr C hasF_length (E_loc (by kernel_rfl) (by kernel_rfl)) rfl) EL_nil (by kernel_rfl)) (by kernel_rfl)) rfl)) (TA_or (T_not (T_val (E_isi C isi_list (by kernel_rfl) ns_isinstance (by kernel_rfl) ns_list (by decide +kernel) (by decide) (by decide) (E_attr C hasF_sizes (E_loc (by kernel_rfl) (by kernel_rfl)) rfl) (by kernel_rfl) (by kernel_rfl)) rfl)) TA_or0)))) (Xs_one (X_ret E_bool)) Xs_nil) (Xs_one (X_ret (E_boolop (EB_and (E_cmp C (E_attr C hasF_pages (E_loc (by kernel_rfl) (by kernel_rfl)) rfl) (E_loc (by kernel_rfl) (by kernel_rfl)) (by kernel_rfl)) (EB_and (E_cmp C (E_attr C hasF_length (E_loc (by kernel_rfl) (by kernel_rfl)) rfl) (E_loc (by kernel_rfl) (by kernel_rfl)) (by kernel_rfl)) (EB_one (E_cmp C (E_attr C hasF_sizes (E_loc (by kernel_rfl) (by kernel_rfl)) rfl) (E_loc (by kernel_rfl) (by kernel_rfl)) (by kernel_rfl))))))))))))))))))
end
end Mine

set_option Elab.async false
set_option linter.unusedVariables false
set_option linter.unusedSimpArgs false
set_option maxRecDepth 100000
namespace Mine
open PySem PySem.W PyProof.Rows

section
variable (sn : List Int) (H : Hp)
theorem v_whole (v : V) (t : String) (h : tyOf sn H v = some t) : f_whole sn [v] H = .ok (.bool (decide (t = "int"))) H := by
  by_cases h1 : t = "int"
  · subst h1; simp [f_whole, m_whole, t_whole_1, r_fn, initL, r_bnd, r_pur, r_get, upd, r_isi, h, r_truth, r_ite]
  · by_cases h2 : t = "bool"
    · subst h2; simp [f_whole, m_whole, t_whole_1, r_fn, initL, r_bnd, r_pur, r_get, upd, r_isi, h, r_truth, r_ite]
    · simp [f_whole, m_whole, t_whole_1, r_fn, initL, r_bnd, r_pur, r_get, upd, r_isi, h, r_truth, r_ite, h1, h2]
theorem v_whole_int (i : Int) : f_whole sn [.int i] H = .ok (.bool true) H := v_whole sn H _ "int" rfl
theorem v_between_int (i a b : Int) : f_between sn [.int i, .int a, .int b] H = .ok (.bool (decide (a ≤ i ∧ i ≤ b))) H := by
  by_cases h1 : a ≤ i <;> simp [f_between, m_between, t_between_1, r_fn, initL, r_bnd, r_pur, r_get, upd, r_call, v_whole_int, r_truth, r_ite, cmpV, h1]
theorem v_cell (k : Int) (h0 : 0 ≤ k) (h1 : k < 1000) : ∃ c, f_law_cell_at sn [.scr, .int k] H = .ok (.int c) H := by
  have h6 : k < 1000000 := by omega
  by_cases h2 : k < (sn.length : Int)
  · have h3 : k.toNat < sn.length := by omega
    have h4 : sn[k.toNat]? = some sn[k.toNat] := List.getElem?_eq_getElem h3
    exact ⟨sn[k.toNat], by simp [f_law_cell_at, m_law_cell_at, t_law_cell_at_1, t_law_cell_at_2, r_fn, initL, r_bnd, r_pur, r_get, r_seq, upd, lenV, cmpV, h2, itemV, h0, h6, h4]⟩
  · exact ⟨0, by simp [f_law_cell_at, m_law_cell_at, t_law_cell_at_1, t_law_cell_at_2, r_fn, initL, r_bnd, r_pur, r_get, r_seq, upd, lenV, cmpV, h2]⟩
/-- rising sizes from 1 up to the length -/
structure Sizes (len : Int) (xs : List Int) : Prop where
  rise : xs.Pairwise (· < ·)
  low : ∀ x ∈ xs, 1 ≤ x
  top : ∀ x ∈ xs, x ≤ len
theorem Sizes.snoc {len b : Int} {xs : List Int} (h : Sizes len xs) (hb : ∀ x ∈ xs, x < b) (h1 : 1 ≤ b) (h2 : b ≤ len) : Sizes len (xs ++ [b]) := by
  refine ⟨List.pairwise_append.mpr ⟨h.rise, by simp, fun x hx y hy => ?_⟩, fun x hx => ?_, fun x hx => ?_⟩
  · simp at hy; subst hy; exact hb x hx
  · rcases List.mem_append.mp hx with h3 | h3
    · exact h.low x h3
    · simp at h3; omega
  · rcases List.mem_append.mp hx with h3 | h3
    · exact h.top x h3
    · simp at h3; omega


noncomputable def SbI (len span : Int) (rem : List V) (q : S) : Prop := ∃ b r xs, q.l "_law_found" = some (.ref H.length) ∧ q.l "_law_before" = some (.int b) ∧ q.l "_law_rest" = some (.int r) ∧ q.l "_law_span" = some (.int span) ∧
  q.l "_law_length" = some (.int len) ∧ q.H = H ++ [.list (xs.map V.int)] ∧ Sizes len xs ∧ (∀ x ∈ xs, x ≤ b) ∧ 0 ≤ b ∧ xs.length + rem.length ≤ 8

theorem v_sizes_loop (len span : Int) (hs : 1 ≤ span) : ∀ xs q, SbI H len span xs q → ∃ q', forV (fun _ => True) (setV "_law_turn") (b_law_sizes_by_1 sn) xs q = .ok .next q' ∧ SbI H len span [] q' := by
  refine forV_ind (SbI H len span) fun x rem q hI => ?_
  obtain ⟨b, r, xs, h1, h2, h3, h4, h5, h6, h7, h8, h9, h10⟩ := hI
  obtain ⟨l, HH⟩ := q
  dsimp only at h1 h2 h3 h4 h5 h6
  subst h6
  obtain ⟨m1, m2⟩ := fmod_range r span (by omega)
  have hne : span ≠ 0 := by omega
  have hlen : xs.length < 1000000 := by simp at h10; omega
  by_cases hle : b + 1 + r.fmod span ≤ len
  · refine ⟨⟨upd (upd (upd l "_law_turn" x) "_law_before" (.int (b + 1 + r.fmod span))) "_law_rest" (.int (r.fdiv span)), H ++ [.list ((xs ++ [b + 1 + r.fmod span]).map V.int)]⟩, by simp [b_law_sizes_by_1, r_bnd, r_set, r_seq, r_get, r_pur, upd_same, upd_ne, h1, h2, h3, h4, h5, addV, modV, divV, hne, cmpV, hle, r_kind, r_append, hlen], trivial, b + 1 + r.fmod span, r.fdiv span, xs ++ [b + 1 + r.fmod span],
      by simp [upd, h1], by simp [upd], by simp [upd], by simp [upd, h4], by simp [upd, h5], rfl, h7.snoc (fun x hx => by have := h8 x hx; omega) (by omega) hle, fun x hx => ?_, by omega, by simp at h10 ⊢; omega⟩
    rcases List.mem_append.mp hx with hx | hx
    · have := h8 x hx; omega
    · simp at hx; omega
  · exact ⟨⟨upd (upd (upd l "_law_turn" x) "_law_before" (.int (b + 1 + r.fmod span))) "_law_rest" (.int (r.fdiv span)), H ++ [.list (xs.map V.int)]⟩, by simp [b_law_sizes_by_1, r_bnd, r_set, r_seq, r_get, r_pur, upd_same, upd_ne, h1, h2, h3, h4, h5, addV, modV, divV, hne, cmpV, hle, r_kind, r_append, hlen], trivial, b + 1 + r.fmod span, r.fdiv span, xs,
      by simp [upd, h1], by simp [upd], by simp [upd], by simp [upd, h4], by simp [upd, h5], rfl, h7, fun x hx => by have := h8 x hx; omega, by omega, by simp at h10 ⊢; omega⟩

theorem v_sizes_by (c len many : Int) (h1 : 1 ≤ len) (h2 : 1 ≤ many) (h3 : many ≤ 8) :
    ∃ v H', f_law_sizes_by sn [.int c, .int len, .int many] H = .ok v H' ∧ ∃ xs, v = .ref H.length ∧ H <+: H' ∧ H'[H.length]? = some (.list (xs.map .int)) ∧ Sizes len xs ∧ xs ≠ [] ∧ xs.length ≤ 8 := by
  refine Rt.fn (m := m_law_sizes_by sn) rfl ?_
  refine seq_rt (P := fun q => q = ⟨upd (initL ["_law_cell", "_law_length", "_law_many"] [.int c, .int len, .int many]) "_law_found" (.ref H.length), H ++ [.list []]⟩) (Nx.of (by simp [t_law_sizes_by_1, r_bnd, r_pur, r_newL, r_set]) rfl) ?_
  rintro _ rfl
  refine seq_rt (Nx.of (P := fun q => q = ⟨upd _ "_law_before" (.int 0), H ++ [.list []]⟩) (by simp [t_law_sizes_by_2, r_bnd, r_pur, r_set]; rfl) rfl) ?_
  rintro _ rfl
  refine seq_rt (Nx.of (P := fun q => q = ⟨upd _ "_law_rest" (.int (c.fdiv 3)), H ++ [.list []]⟩) (by simp [t_law_sizes_by_3, r_bnd, r_pur, r_set, r_get, upd, initL, divV]; rfl) rfl) ?_
  rintro _ rfl
  refine seq_rt (Nx.of (P := fun q => q = ⟨upd _ "_law_span" (.int 4), H ++ [.list []]⟩) (by simp [t_law_sizes_by_4, r_bnd, r_pur, r_set]; rfl) rfl) ?_
  rintro _ rfl
  refine seq_rt (P := fun q => ∃ span, 1 ≤ span ∧ SbI H len span (rangeL 0 many.toNat) q ∧ q.l "_law_many" = some (.int many)) ?_ ?_
  · by_cases hc : c.fmod 3 = 0
    · refine Nx.of (q' := ⟨upd _ "_law_span" (.int len), H ++ [.list []]⟩) (by simp [t_law_sizes_by_5, r_bnd, r_pur, r_set, r_get, upd, initL, modV, cmpV, r_eq_int, hc]; rfl) ⟨len, h1, ⟨0, c.fdiv 3, [], ?_⟩, ?_⟩
      · exact ⟨by simp [upd], by simp [upd], by simp [upd], by simp [upd], by simp [upd, initL], rfl, ⟨by simp, by simp, by simp⟩, by simp, by omega, by rw [rangeL_length]; simp; omega⟩
      · simp [upd, initL]
    · refine Nx.of (q' := ⟨_, H ++ [.list []]⟩) (by simp [t_law_sizes_by_5, r_bnd, r_pur, r_set, r_get, upd, initL, modV, cmpV, r_eq_int, hc]; rfl) ⟨4, by omega, ⟨0, c.fdiv 3, [], ?_⟩, ?_⟩
      · exact ⟨by simp [upd], by simp [upd], by simp [upd], by simp [upd], by simp [upd, initL], rfl, ⟨by simp, by simp, by simp⟩, by simp, by omega, by rw [rangeL_length]; simp; omega⟩
      · simp [upd, initL]
  rintro ⟨l, H1⟩ ⟨span, hs, hI, hm⟩
  dsimp only at hm
  obtain ⟨⟨l', H'⟩, hq, b, r, xs, i1, i2, i3, i4, i5, i6, i7, i8, i9, i10⟩ := v_sizes_loop sn H len span hs _ _ hI
  dsimp only at i1 i5 i6
  subst i6
  refine seq_rt (P := fun q => q = ⟨l', H ++ [.list (xs.map V.int)]⟩) (Nx.of (by simp only [t_law_sizes_by_6, r_bnd, r_get, hm, r_pur, r_range1 many _ ⟨by omega, by omega⟩]; exact hq) rfl) ?_
  rintro _ rfl
  have g1 : (H ++ [O.list (xs.map V.int), O.list []])[H.length]? = some (.list (xs.map V.int)) := by simp
  have e0 : eqV (.ref H.length) (.ref (H.length + 1)) ⟨l', H ++ [O.list (xs.map V.int), O.list []]⟩ = .ok (decide (xs = [])) ⟨l', H ++ [O.list (xs.map V.int), O.list []]⟩ := r_eq_ints (ys := []) (by simp) (by simp)
  refine seq_rt (P := fun q => q.l "_law_found" = some (.ref H.length) ∧ ∃ ys : List Int, q.H = H ++ [.list (ys.map V.int), .list []] ∧ Sizes len ys ∧ ys ≠ [] ∧ ys.length ≤ 8) ?_ ?_
  · by_cases hx : xs = []
    · subst hx
      refine Nx.of (q' := ⟨l', H ++ [.list ([len].map V.int), .list []]⟩) (by simp at e0 g1; simp [t_law_sizes_by_7, r_bnd, r_get, i1, r_pur, r_newL, cmpV, e0, i5, r_kind, r_append]) ⟨i1, [len], rfl, ⟨by simp, by simp; omega, by simp⟩, by simp, by simp⟩
    · refine Nx.of (q' := ⟨l', H ++ [.list (xs.map V.int), .list []]⟩) (by simp [t_law_sizes_by_7, r_bnd, r_get, i1, r_pur, r_newL, cmpV, e0, hx]) ⟨i1, xs, rfl, i7, hx, by simpa using i10⟩
  rintro ⟨l2, H2⟩ ⟨k1, ys, k2, k3, k4, k5⟩
  dsimp only at k1 k2
  subst k2
  exact Rt.of (v := .ref H.length) (q' := ⟨l2, H ++ [.list (ys.map V.int), .list []]⟩) (by simp [t_law_sizes_by_8, r_bnd, r_get, k1, r_pur]) ⟨ys, rfl, ⟨_, rfl⟩, by simp, k3, k4, k5⟩

/-! ### Plan -/
noncomputable def planF (p len : Int) (m : Nat) : List (String × V) := [("pages", .int p), ("length", .int len), ("sizes", .ref m)]
theorem pl_pages (p len : Int) (m : Nat) : (planF p len m).lookup "pages" = some (.int p) := by simp [planF, List.lookup]
theorem pl_length (p len : Int) (m : Nat) : (planF p len m).lookup "length" = some (.int len) := by simp [planF, List.lookup]
theorem pl_sizes (p len : Int) (m : Nat) : (planF p len m).lookup "sizes" = some (.ref m) := by simp [planF, List.lookup]
/-- a plan at i -/
structure IsPlan (H : Hp) (i : Nat) (p len : Int) (xs : List Int) : Prop where
  at' : ∃ m, H[i]? = some (.flds (planF p len m)) ∧ H[m]? = some (.list (xs.map V.int))
theorem IsPlan.pre {H H' : Hp} {i : Nat} {p len : Int} {xs : List Int} (h : IsPlan H i p len xs) (e : H <+: H') : IsPlan H' i p len xs := let ⟨m, h1, h2⟩ := h.at'; ⟨m, pre_get e h1, pre_get e h2⟩

noncomputable def PiI (j : Nat) (l0 : Loc) (len : Int) (rem : List V) (q : S) : Prop := ∃ (last : Int) (ys : List Int), rem = ys.map V.int ∧ q.l "last" = some (.int last) ∧ q.l "length" = some (.int len) ∧ q.H = H ∧ q.l "self" = l0 "self" ∧ q.l "pages" = l0 "pages" ∧ q.l "sizes" = l0 "sizes" ∧
  (∀ y ∈ ys, last < y ∧ y ≤ len) ∧ ys.Pairwise (· < ·)
theorem v_init_loop (j : Nat) (l0 : Loc) (len : Int) (zs : List V) (hj : itemsOf sn (.ref j) H = some zs) : ∀ xs q, PiI H j l0 len xs q →
    ∃ q', forV (fun H => itemsOf sn (.ref j) H = some zs) (setV "size") (b_Plan_init_1 sn) xs q = .ok .next q' ∧ PiI H j l0 len [] q' := by
  refine forV_ind (PiI H j l0 len) fun x rem q hI => ?_
  obtain ⟨last, ys, e, h1, h2, h3, h4, h5, h6, h7, h8⟩ := hI
  obtain ⟨l, HH⟩ := q
  dsimp only at h1 h2 h3 h4 h5 h6
  subst h3
  cases ys with
  | nil => cases e
  | cons y ys =>
    rw [List.map_cons, List.cons.injEq] at e
    obtain ⟨rfl, rfl⟩ := e
    have hy := h7 y (.head _)
    have hb : (last + 1 ≤ y ∧ y ≤ len) := ⟨by omega, hy.2⟩
    rw [List.pairwise_cons] at h8
    refine ⟨⟨upd (upd l "size" (.int y)) "last" (.int y), HH⟩, ?_, hj, y, ys, rfl, by simp [upd], by simp [upd, h2], rfl, by simp [upd, h4], by simp [upd, h5], by simp [upd, h6], fun z hz => ⟨h8.1 z hz, (h7 z (.tail _ hz)).2⟩, h8.2⟩
    simp [b_Plan_init_1, r_bnd, r_set, r_seq, r_get, r_pur, upd_same, upd_ne, h1, h2, addV, r_call, v_between_int, hb, r_truth]

theorem v_init (n j : Nat) (p len : Int) (xs : List Int) (hp : 1 ≤ p ∧ p ≤ 40) (hl : 1 ≤ len ∧ len ≤ 60) (hx : Sizes len xs) (hne : xs ≠ []) (h8 : xs.length ≤ 8) (hn : H[n]? = some (.flds [])) (hj : H[j]? = some (.list (xs.map V.int))) :
    f_Plan_init sn [.inst "Plan" n, .int p, .int len, .ref j] H = .ok .none ((H ++ [O.list (xs.map V.int)]).set n (.flds (planF p len H.length))) := by
  have hnj : n ≠ j := fun e => by rw [e, hj] at hn; cases hn
  have hnl : n < H.length := (List.getElem?_eq_some_iff.mp hn).1
  have hit : itemsOf sn (.ref j) H = some (xs.map V.int) := by simp [itemsOf, hj]
  have hlen : 1 ≤ (xs.length : Int) := by
    cases xs with
    | nil => exact absurd rfl hne
    | cons x xs => simp; omega
  have hlen8 : (xs.length : Int) ≤ 8 := by omega
  have hlm : xs.length < 1000000 := by omega
  have L0 : ∃ l0, initL ["self", "pages", "length", "sizes"] [.inst "Plan" n, .int p, .int len, .ref j] = l0 ∧ l0 "self" = some (.inst "Plan" n) ∧ l0 "pages" = some (.int p) ∧ l0 "length" = some (.int len) ∧ l0 "sizes" = some (.ref j) := ⟨_, rfl, by simp [initL, upd], by simp [initL, upd], by simp [initL, upd], by simp [initL, upd]⟩
  obtain ⟨l0, e0, a1, a2, a3, a4⟩ := L0
  obtain ⟨⟨l', H'⟩, hq, last, ys, k1, k2, k3, k4, k5, k6, k7, _⟩ := v_init_loop sn H j l0 len _ hit (xs.map V.int) ⟨upd l0 "last" (.int 0), H⟩
    ⟨0, xs, rfl, by simp [upd], by simp [upd, a3], rfl, by simp [upd], by simp [upd], by simp [upd], fun y hy => ⟨by have := hx.low y hy; omega, hx.top y hy⟩, hx.rise⟩
  dsimp only at k2 k3 k4 k5 k6 k7
  subst k4
  have s1 : t_Plan_init_1 sn ⟨l0, H'⟩ = .ok .next ⟨l0, H'⟩ := by simp [t_Plan_init_1, r_bnd, r_get, r_pur, a2, a3, r_call, v_between_int, hp, hl, r_truth]
  have s2 : t_Plan_init_2 sn ⟨l0, H'⟩ = .ok .next ⟨l0, H'⟩ := by simp [t_Plan_init_2, r_bnd, r_get, r_pur, a4, r_isi, tyOf, hj, r_truth, lenV, hlm, cmpV, hlen, hlen8]
  have s3 : t_Plan_init_3 sn ⟨l0, H'⟩ = .ok .next ⟨upd l0 "last" (.int 0), H'⟩ := rfl
  have s4 : t_Plan_init_4 sn ⟨upd l0 "last" (.int 0), H'⟩ = .ok .next ⟨l', H'⟩ := by
    simp only [t_Plan_init_4, r_bnd, r_get, upd_ne _ _ (show "sizes" ≠ "last" by decide), a4, r_itOf, hit]; exact hq
  rw [a1] at k5; rw [a2] at k6; rw [a4] at k7
  have s5 : t_Plan_init_5 sn ⟨l', H'⟩ = .ok .next ⟨l', H'.set n (.flds [("pages", .int p)])⟩ := by simp [t_Plan_init_5, r_bnd, r_get, r_pur, k5, k6, r_setAttr, hn, fset]
  have s6 : t_Plan_init_6 sn ⟨l', H'.set n (.flds [("pages", .int p)])⟩ = .ok .next ⟨l', H'.set n (.flds [("pages", .int p), ("length", .int len)])⟩ := by simp [t_Plan_init_6, r_bnd, r_get, r_pur, k5, k3, r_setAttr, hnl, fset]
  have s7 : t_Plan_init_7 sn ⟨l', H'.set n (.flds [("pages", .int p), ("length", .int len)])⟩ = .ok .next ⟨l', (H' ++ [O.list (xs.map V.int)]).set n (.flds (planF p len H'.length))⟩ := by
    have h1 : (H'.set n (.flds [("pages", .int p), ("length", .int len)]))[j]? = some (.list (xs.map V.int)) := by rw [List.getElem?_set_ne hnj]; exact hj
    have h2 : itemsOf sn (.ref j) (H'.set n (.flds [("pages", .int p), ("length", .int len)])) = some (xs.map V.int) := by simp [itemsOf, h1]
    simp [t_Plan_init_7, r_bnd, r_get, r_pur, k5, k7, r_listOf sn l' _ h2 (by simp; omega), r_setAttr, hnl, List.getElem?_append, List.set_append, fset, planF]
  exact fn_next (m := m_Plan_init sn) rfl (by rw [e0]; exact seq_at s1 (seq_at s2 (seq_at s3 (seq_at s4 (seq_at s5 (seq_at s6 s7))))))

/-! ### refusals -/
theorem v_between_bad (v : V) (t : String) (a b : Int) (hv : tyOf sn H v = some t) (ht : t ≠ "int") : f_between sn [v, .int a, .int b] H = .ok (.bool false) H := by
  simp [f_between, m_between, t_between_1, r_fn, initL, r_bnd, r_pur, r_get, upd, r_call, v_whole sn H v t hv, ht, r_truth, r_ite]
theorem v_between_out (i a b : Int) (h : ¬ (a ≤ i ∧ i ≤ b)) : f_between sn [.int i, .int a, .int b] H = .ok (.bool false) H := by
  rw [v_between_int, decide_eq_false h]
theorem init_bad1 (n : Nat) (v1 v2 v3 : V) (h : f_between sn [v1, .int 1, .int 40] H = .ok (.bool false) H) : f_Plan_init sn [.inst "Plan" n, v1, v2, v3] H = .exc "BadPlan" H := by
  refine fn_exc (m := m_Plan_init sn) (q := ⟨initL ["self", "pages", "length", "sizes"] [.inst "Plan" n, v1, v2, v3], H⟩) rfl (seq_exc ?_)
  simp [t_Plan_init_1, r_bnd, r_get, initL, upd, r_pur, r_call, h, r_truth, r_raise]
theorem init_bad2 (n : Nat) (v1 v2 v3 : V) (h1 : f_between sn [v1, .int 1, .int 40] H = .ok (.bool true) H) (h2 : f_between sn [v2, .int 1, .int 60] H = .ok (.bool false) H) : f_Plan_init sn [.inst "Plan" n, v1, v2, v3] H = .exc "BadPlan" H := by
  refine fn_exc (m := m_Plan_init sn) (q := ⟨initL ["self", "pages", "length", "sizes"] [.inst "Plan" n, v1, v2, v3], H⟩) rfl (seq_exc ?_)
  simp [t_Plan_init_1, r_bnd, r_get, initL, upd, r_pur, r_call, h1, h2, r_truth, r_raise]
theorem init_t1 (n : Nat) (p len : Int) (v3 : V) (hp : 1 ≤ p ∧ p ≤ 40) (hl : 1 ≤ len ∧ len ≤ 60) : t_Plan_init_1 sn ⟨initL ["self", "pages", "length", "sizes"] [.inst "Plan" n, .int p, .int len, v3], H⟩ = .ok .next ⟨initL ["self", "pages", "length", "sizes"] [.inst "Plan" n, .int p, .int len, v3], H⟩ := by
  simp [t_Plan_init_1, r_bnd, r_get, initL, upd, r_pur, r_call, v_between_int, hp, hl, r_truth]
theorem init_bad3 (n : Nat) (p len : Int) (v3 : V) (t : String) (hp : 1 ≤ p ∧ p ≤ 40) (hl : 1 ≤ len ∧ len ≤ 60) (hv : tyOf sn H v3 = some t) (ht : t ≠ "list") (hb : t ≠ "bool") : f_Plan_init sn [.inst "Plan" n, .int p, .int len, v3] H = .exc "BadPlan" H := by
  refine fn_exc (m := m_Plan_init sn) (q := ⟨initL ["self", "pages", "length", "sizes"] [.inst "Plan" n, .int p, .int len, v3], H⟩) rfl (seq_at (init_t1 sn H n p len v3 hp hl) (seq_exc ?_))
  simp [t_Plan_init_2, r_bnd, r_get, initL, upd, r_pur, r_isi, hv, ht, hb, r_truth, r_raise]
theorem init_bad3' (n i : Nat) (p len : Int) (zs : List V) (hp : 1 ≤ p ∧ p ≤ 40) (hl : 1 ≤ len ∧ len ≤ 60) (hv : H[i]? = some (.list zs)) (hz : zs.length = 0 ∨ (8 < zs.length ∧ zs.length < 1000)) : f_Plan_init sn [.inst "Plan" n, .int p, .int len, .ref i] H = .exc "BadPlan" H := by
  refine fn_exc (m := m_Plan_init sn) (q := ⟨initL ["self", "pages", "length", "sizes"] [.inst "Plan" n, .int p, .int len, .ref i], H⟩) rfl (seq_at (init_t1 sn H n p len _ hp hl) (seq_exc ?_))
  have h1 : zs.length < 1000000 := by omega
  rcases hz with hz | hz
  · have h2 : ¬ (1 ≤ (zs.length : Int)) := by omega
    simp [t_Plan_init_2, r_bnd, r_get, initL, upd, r_pur, r_isi, tyOf, hv, r_truth, r_raise, lenV, h1, cmpV, h2]
  · have h2 : 1 ≤ (zs.length : Int) := by omega
    have h3 : ¬ ((zs.length : Int) ≤ 8) := by omega
    simp [t_Plan_init_2, r_bnd, r_get, initL, upd, r_pur, r_isi, tyOf, hv, r_truth, r_raise, lenV, h1, cmpV, h2, h3]

theorem bad_loop (w : V) (rest : List V) (len : Int) {g : Hp → Prop} (hg : g H) : ∀ (ys : List Int) (last : Int) (l : Loc), l "last" = some (.int last) → l "length" = some (.int len) → (∀ y ∈ ys, last < y ∧ y ≤ len) → ys.Pairwise (· < ·) →
    f_between sn [w, .int (ys.getLast?.getD last + 1), .int len] H = .ok (.bool false) H → ∃ l', forV g (setV "size") (b_Plan_init_1 sn) (ys.map V.int ++ w :: rest) ⟨l, H⟩ = .exc "BadPlan" ⟨l', H⟩
  | [], last, l, h1, h2, _, _, hb => by
    refine ⟨upd l "size" w, forV_exc ?_⟩
    simp at hb
    simp [b_Plan_init_1, r_bnd, r_set, r_seq, r_get, r_pur, upd_same, upd_ne, h1, h2, addV, r_call, hb, r_truth, r_raise]
  | y :: ys, last, l, h1, h2, h3, h4, hb => by
    have hy := h3 y (.head _)
    have hb1 : (last + 1 ≤ y ∧ y ≤ len) := ⟨by omega, hy.2⟩
    rw [List.pairwise_cons] at h4
    have ht : ((setV "size" (.int y)).bnd fun _ => b_Plan_init_1 sn) ⟨l, H⟩ = .ok .next ⟨upd (upd l "size" (.int y)) "last" (.int y), H⟩ := by
      simp [b_Plan_init_1, r_bnd, r_set, r_seq, r_get, r_pur, upd_same, upd_ne, h1, h2, addV, r_call, v_between_int, hb1, r_truth]
    rw [List.map_cons, List.cons_append, forV_next ht hg]
    refine bad_loop w rest len hg ys y _ (by simp [upd]) (by simpa [upd] using h2) (fun z hz => ⟨h4.1 z hz, (h3 z (.tail _ hz)).2⟩) h4.2 ?_
    cases ys with
    | nil => simpa using hb
    | cons z zs =>
      rw [List.getLast?_cons_cons] at hb
      cases hgl : (z :: zs).getLast? with
      | none => simp at hgl
      | some u => rw [hgl] at hb; exact hb

theorem init_t2 (n i : Nat) (p len : Int) (zs : List V) (hv : H[i]? = some (.list zs)) (h2 : (1 : Int) ≤ (zs.length : Int)) (h3 : (zs.length : Int) ≤ 8) :
    t_Plan_init_2 sn ⟨initL ["self", "pages", "length", "sizes"] [.inst "Plan" n, .int p, .int len, .ref i], H⟩ = .ok .next ⟨initL ["self", "pages", "length", "sizes"] [.inst "Plan" n, .int p, .int len, .ref i], H⟩ := by
  have h1 : zs.length < 1000000 := by omega
  simp [t_Plan_init_2, r_bnd, r_get, initL, upd, r_pur, r_isi, tyOf, hv, r_truth, lenV, h1, cmpV, h2, h3]
theorem init_bad4 (n i : Nat) (p len : Int) (ys : List Int) (w : V) (rest : List V) (hp : 1 ≤ p ∧ p ≤ 40) (hl : 1 ≤ len ∧ len ≤ 60) (hv : H[i]? = some (.list (ys.map V.int ++ w :: rest))) (hlen : ys.length + 1 + rest.length ≤ 8) (hx : Sizes len ys)
    (hb : f_between sn [w, .int (ys.getLast?.getD 0 + 1), .int len] H = .ok (.bool false) H) : f_Plan_init sn [.inst "Plan" n, .int p, .int len, .ref i] H = .exc "BadPlan" H := by
  have hit : itemsOf sn (.ref i) H = some (ys.map V.int ++ w :: rest) := by simp [itemsOf, hv]
  have h1 : (ys.map V.int ++ w :: rest).length < 1000000 := by simp; omega
  have h2 : (1 : Int) ≤ ((ys.map V.int ++ w :: rest).length : Int) := by simp; omega
  have h3 : ((ys.map V.int ++ w :: rest).length : Int) ≤ 8 := by simp; omega
  have s2 := init_t2 sn H n i p len _ hv h2 h3
  obtain ⟨l', hq⟩ := bad_loop sn H w rest len (g := fun H => itemsOf sn (.ref i) H = some (ys.map V.int ++ w :: rest)) hit ys 0 (upd (initL ["self", "pages", "length", "sizes"] [.inst "Plan" n, .int p, .int len, .ref i]) "last" (.int 0))
    (by simp [upd]) (by simp [upd, initL]) (fun y hy => ⟨by have := hx.low y hy; omega, hx.top y hy⟩) hx.rise hb
  refine fn_exc (m := m_Plan_init sn) (q := ⟨l', H⟩) rfl (seq_at (init_t1 sn H n p len _ hp hl) (seq_at s2 (seq_at (q' := ⟨upd (initL ["self", "pages", "length", "sizes"] [.inst "Plan" n, .int p, .int len, .ref i]) "last" (.int 0), H⟩) rfl (seq_exc ?_))))
  simp only [t_Plan_init_4, r_bnd, r_get, show upd (initL ["self", "pages", "length", "sizes"] [.inst "Plan" n, .int p, .int len, .ref i]) "last" (.int 0) "sizes" = some (.ref i) by simp [initL, upd], r_itOf, hit]
  exact hq

theorem v_refused (v1 v2 v3 : V) (way : Int) (H' : Hp) (h : f_Plan_init sn [.inst "Plan" H.length, v1, v2, v3] (H ++ [.flds []]) = .exc "BadPlan" H') : f_law_refused sn [v1, v2, v3, .int way] H = .ok (.bool true) H' := by
  have hm : ∀ l, makeV "Plan" (f_Plan_init sn) [v1, v2, v3] ⟨l, H⟩ = .exc "BadPlan" ⟨l, H'⟩ := fun l => by rw [r_make, h]
  by_cases hw : way.fmod 2 = 0
  · refine fn_ret (m := m_law_refused sn) (q := ⟨initL ["_law_pages", "_law_length", "_law_sizes", "_law_way"] [v1, v2, v3, .int way], H'⟩) rfl (seq_ret ?_)
    simp [t_law_refused_1, r_bnd, r_get, initL, upd, r_pur, modV, cmpV, r_eq_int, hw, r_seq, r_try, hm]
  · refine fn_ret (m := m_law_refused sn) (q := ⟨fun _ => none, H'⟩) rfl (seq_at (q' := ⟨initL ["_law_pages", "_law_length", "_law_sizes", "_law_way"] [v1, v2, v3, .int way], H⟩) ?_ (seq_ret ?_))
    · simp [t_law_refused_1, r_bnd, r_get, initL, upd, r_pur, modV, cmpV, r_eq_int, hw]
    · simp [t_law_refused_2, r_bnd, r_get, initL, upd, r_pur, r_try, hm, asV, r_set, r_seq, isxV, List.lookup, r_truth]

theorem take_last : ∀ (xs : List Int) (k : Nat), 0 < k → k ≤ xs.length → ∃ z, xs[k - 1]? = some z ∧ (xs.take k).getLast? = some z := fun xs k h1 h2 => by
  have h3 : k - 1 < xs.length := by omega
  refine ⟨xs[k - 1], List.getElem?_eq_getElem h3, ?_⟩
  rw [List.getLast?_eq_getElem?, List.length_take, Nat.min_eq_left h2, List.getElem?_take_of_lt (by omega), List.getElem?_eq_getElem h3]

noncomputable def WBad (w : V) (lo len : Int) : Prop := ∀ Hx, f_between sn [w, .int (lo + 1), .int len] Hx = .ok (.bool false) Hx
theorem wbad_int {i lo len : Int} (h : i ≤ lo ∨ len < i) : WBad sn (.int i) lo len := fun Hx => v_between_out sn Hx i _ _ (by omega)
theorem wbad_ty {v : V} {t : String} {lo len : Int} (hv : ∀ Hx, tyOf sn Hx v = some t) (ht : t ≠ "int") : WBad sn v lo len := fun Hx => v_between_bad sn Hx v t _ _ (hv Hx) ht

theorem wrong_pick (l : Loc) (before len c r : Int) (hl : 0 ≤ before) (hlen : 1 ≤ len) (hr : 0 ≤ r ∧ r < 7) (a b : Int) (ha : 0 ≤ a) (hb : 0 ≤ b) :
    ∃ w, itemV sn (.ref H.length) (.int r) ⟨l, H ++ [.list [.int before, .int (before - 1 - a), .int (len + 1 + b), .bool true, .str "1", .int 0, .none]]⟩ = .ok w ⟨l, H ++ [.list [.int before, .int (before - 1 - a), .int (len + 1 + b), .bool true, .str "1", .int 0, .none]]⟩ ∧ WBad sn w before len := by
  obtain ⟨h1, h2⟩ := hr
  have : r = 0 ∨ r = 1 ∨ r = 2 ∨ r = 3 ∨ r = 4 ∨ r = 5 ∨ r = 6 := by omega
  rcases this with rfl | rfl | rfl | rfl | rfl | rfl | rfl
  · exact ⟨.int before, by simp [itemV], wbad_int sn (by omega)⟩
  · exact ⟨.int (before - 1 - a), by simp [itemV], wbad_int sn (by omega)⟩
  · exact ⟨.int (len + 1 + b), by simp [itemV], wbad_int sn (by omega)⟩
  · exact ⟨.bool true, by simp [itemV], wbad_ty sn (t := "bool") (fun _ => rfl) (by decide)⟩
  · exact ⟨.str "1", by simp [itemV], wbad_ty sn (t := "str") (fun _ => rfl) (by decide)⟩
  · exact ⟨.int 0, by simp [itemV], wbad_int sn (by omega)⟩
  · exact ⟨.none, by simp [itemV], wbad_ty sn (t := "NoneType") (fun _ => rfl) (by decide)⟩

theorem v_bad_sizes (j : Nat) (xs : List Int) (len cell : Int) (hj : H[j]? = some (.list (xs.map V.int))) (hS : Sizes len xs) (hne : xs ≠ []) (h8 : xs.length ≤ 8) (hlen : 1 ≤ len) :
    ∃ v H', f_law_bad_sizes sn [.ref j, .int len, .int cell] H = .ok v H' ∧ ∃ i ys w rest, v = .ref i ∧ H'[i]? = some (.list (ys.map V.int ++ w :: rest)) ∧ ys.length + 1 + rest.length ≤ 8 ∧ Sizes len ys ∧ WBad sn w (ys.getLast?.getD 0) len := by
  have hpos : 0 < xs.length := List.length_pos_iff.mpr hne
  have hxl : xs.length < 1000000 := by omega
  have hz : (xs.length : Int) ≠ 0 := by omega
  obtain ⟨m1, m2⟩ := fmod_range (cell.fdiv 7) xs.length (by omega)
  generalize hat : (cell.fdiv 7).fmod (xs.length : Int) = at' at m1 m2
  have hk : at'.toNat < xs.length := by omega
  have hsub : Sizes len (xs.take at'.toNat) := ⟨hS.rise.sublist (List.take_sublist _ _), fun x hx => hS.low x (List.mem_of_mem_take hx), fun x hx => hS.top x (List.mem_of_mem_take hx)⟩
  refine Rt.fn (m := m_law_bad_sizes sn) rfl ?_
  refine seq_rt (P := fun q => q = ⟨upd (initL ["_law_sizes", "_law_length", "_law_cell"] [.ref j, .int len, .int cell]) "_law_at" (.int at'), H⟩) (Nx.of (by simp [t_law_bad_sizes_1, r_bnd, r_get, initL, upd_same, upd_ne, r_pur, divV, lenV, hj, hxl, modV, hz, hat, r_set, hne]) rfl) ?_
  rintro _ rfl
  refine seq_rt (P := fun q => q = ⟨upd (upd (initL ["_law_sizes", "_law_length", "_law_cell"] [.ref j, .int len, .int cell]) "_law_at" (.int at')) "_law_before" (.int 0), H⟩) (Nx.of (by simp [t_law_bad_sizes_2, r_bnd, r_pur, r_set]) rfl) ?_
  rintro _ rfl
  refine seq_rt (P := fun q => q.H = H ∧ q.l "_law_sizes" = some (.ref j) ∧ q.l "_law_at" = some (.int at') ∧ q.l "_law_length" = some (.int len) ∧ q.l "_law_cell" = some (.int cell) ∧ q.l "_law_before" = some (.int ((xs.take at'.toNat).getLast?.getD 0))) ?_ ?_
  · by_cases h0 : 0 < at'
    · obtain ⟨z, z1, z2⟩ := take_last xs at'.toNat (by omega) (by omega)
      have e1 : (at' - 1).toNat = at'.toNat - 1 := by omega
      refine Nx.of (q' := ⟨upd (upd (upd (initL ["_law_sizes", "_law_length", "_law_cell"] [.ref j, .int len, .int cell]) "_law_at" (.int at')) "_law_before" (.int 0)) "_law_before" (.int z), H⟩) ?_ ⟨rfl, by simp [upd, initL], by simp [upd], by simp [upd, initL], by simp [upd, initL], by simp [upd, z2]⟩
      have h5 : 0 ≤ at' - 1 ∧ at' - 1 < 1000000 := by omega
      have h01 : 1 ≤ at' := by omega
      simp [h01, t_law_bad_sizes_3, r_bnd, r_get, initL, upd_same, upd_ne, r_pur, cmpV, h0, subV, itemV, hj, h5, e1, z1, r_set]
    · have h00 : at' = 0 := by omega
      subst h00
      exact Nx.of (q' := ⟨upd (upd (initL ["_law_sizes", "_law_length", "_law_cell"] [.ref j, .int len, .int cell]) "_law_at" (.int 0)) "_law_before" (.int 0), H⟩) (by simp [t_law_bad_sizes_3, r_bnd, r_get, initL, upd_same, upd_ne, r_pur, cmpV]) ⟨rfl, by simp [upd, initL], by simp [upd], by simp [upd, initL], by simp [upd, initL], by simp [upd]⟩
  rintro ⟨l, HH⟩ ⟨hH, a1, a2, a3, a4, a5⟩
  dsimp only at hH a1 a2 a3 a4 a5
  subst hH
  have hb0 : 0 ≤ (xs.take at'.toNat).getLast?.getD 0 := by
    cases hg : (xs.take at'.toNat).getLast? with
    | none => simp
    | some z => have := hsub.low z (List.mem_of_getLast? hg); simp; omega
  generalize hbef : (xs.take at'.toNat).getLast?.getD 0 = before at a5 hb0
  obtain ⟨p1, p2⟩ := fmod_range (cell.fdiv 49) 5 (by omega)
  obtain ⟨p3, p4⟩ := fmod_range (cell.fdiv 49) 50 (by omega)
  obtain ⟨w, hw, hwb⟩ := wrong_pick sn HH l before len cell (cell.fmod 7) hb0 hlen (fmod_range cell 7 (by omega)) _ _ p1 p3
  generalize hL7 : O.list [.int before, .int (before - 1 - (cell.fdiv 49).fmod 5), .int (len + 1 + (cell.fdiv 49).fmod 50), .bool true, .str "1", .int 0, .none] = L7 at hw
  refine seq_rt (P := fun q => q = ⟨upd l "_law_wrong_here" w, HH ++ [L7]⟩) (Nx.of (by simp [t_law_bad_sizes_4, r_bnd, r_get, a3, a4, a5, r_pur, subV, addV, divV, modV, r_newL, hL7, hw, r_set]) rfl) ?_
  rintro _ rfl
  have it1 : itemsOf sn (.ref j) (HH ++ [L7]) = some (xs.map V.int) := by simp only [itemsOf, pre_get (H' := HH ++ [L7]) ⟨_, rfl⟩ hj]
  have hj2 : ∀ T, (HH ++ T)[j]? = some (.list (xs.map V.int)) := fun T => pre_get ⟨_, rfl⟩ hj
  have g5 : 0 ≤ at' ∧ (xs.map V.int).length ≤ 1000000 := ⟨m1, by simp; omega⟩
  have g6 : 0 ≤ at' + 1 ∧ (xs.map V.int).length ≤ 1000000 := ⟨by omega, by simp; omega⟩
  have e6 : (at' + 1).toNat = at'.toNat + 1 := by omega
  refine Rt.of (v := .ref (HH.length + 5)) (q' := ⟨upd l "_law_wrong_here" w, HH ++ [L7, .list ((xs.map V.int).take at'.toNat), .list [w], .list ((xs.map V.int).take at'.toNat ++ [w]), .list ((xs.map V.int).drop (at'.toNat + 1)), .list ((xs.map V.int).take at'.toNat ++ [w] ++ (xs.map V.int).drop (at'.toNat + 1))]⟩) ?_
    ⟨HH.length + 5, xs.take at'.toNat, w, (xs.drop (at'.toNat + 1)).map V.int, rfl, by simp, by simp; omega, hsub, by rw [hbef]; exact hwb⟩
  have s1 : takeV sn (.ref j) (.int at') ⟨upd l "_law_wrong_here" w, HH ++ [L7]⟩ = .ok (.ref (HH.length + 1)) ⟨upd l "_law_wrong_here" w, HH ++ [L7, .list ((xs.map V.int).take at'.toNat)]⟩ := by
    simp only [takeV, it1, if_pos g5]; simp
  have s2 : addV (.ref (HH.length + 1)) (.ref (HH.length + 2)) ⟨upd l "_law_wrong_here" w, HH ++ [L7, .list ((xs.map V.int).take at'.toNat), .list [w]]⟩ = .ok (.ref (HH.length + 3)) ⟨upd l "_law_wrong_here" w, HH ++ [L7, .list ((xs.map V.int).take at'.toNat), .list [w], .list ((xs.map V.int).take at'.toNat ++ [w])]⟩ := by
    have x1 : (HH ++ [L7, .list ((xs.map V.int).take at'.toNat), .list [w]])[HH.length + 1]? = some (.list ((xs.map V.int).take at'.toNat)) := by simp
    have x2 : (HH ++ [L7, .list ((xs.map V.int).take at'.toNat), .list [w]])[HH.length + 2]? = some (.list [w]) := by simp
    simp only [addV, x1, x2]
    rw [if_pos (by simp; omega)]
    simp
  have it2 : itemsOf sn (.ref j) (HH ++ [L7, .list ((xs.map V.int).take at'.toNat), .list [w], .list ((xs.map V.int).take at'.toNat ++ [w])]) = some (xs.map V.int) := by simp only [itemsOf, hj2]
  have s3 : dropV sn (.ref j) (.int (at' + 1)) ⟨upd l "_law_wrong_here" w, HH ++ [L7, .list ((xs.map V.int).take at'.toNat), .list [w], .list ((xs.map V.int).take at'.toNat ++ [w])]⟩ = .ok (.ref (HH.length + 4)) ⟨upd l "_law_wrong_here" w, HH ++ [L7, .list ((xs.map V.int).take at'.toNat), .list [w], .list ((xs.map V.int).take at'.toNat ++ [w]), .list ((xs.map V.int).drop (at'.toNat + 1))]⟩ := by
    simp only [dropV, it2, if_pos g6, e6]; simp
  have s4 : addV (.ref (HH.length + 3)) (.ref (HH.length + 4)) ⟨upd l "_law_wrong_here" w, HH ++ [L7, .list ((xs.map V.int).take at'.toNat), .list [w], .list ((xs.map V.int).take at'.toNat ++ [w]), .list ((xs.map V.int).drop (at'.toNat + 1))]⟩ = .ok (.ref (HH.length + 5)) ⟨upd l "_law_wrong_here" w, HH ++ [L7, .list ((xs.map V.int).take at'.toNat), .list [w], .list ((xs.map V.int).take at'.toNat ++ [w]), .list ((xs.map V.int).drop (at'.toNat + 1)), .list ((xs.map V.int).take at'.toNat ++ [w] ++ (xs.map V.int).drop (at'.toNat + 1))]⟩ := by
    have x1 : (HH ++ [L7, .list ((xs.map V.int).take at'.toNat), .list [w], .list ((xs.map V.int).take at'.toNat ++ [w]), .list ((xs.map V.int).drop (at'.toNat + 1))])[HH.length + 3]? = some (.list ((xs.map V.int).take at'.toNat ++ [w])) := by simp
    have x2 : (HH ++ [L7, .list ((xs.map V.int).take at'.toNat), .list [w], .list ((xs.map V.int).take at'.toNat ++ [w]), .list ((xs.map V.int).drop (at'.toNat + 1))])[HH.length + 4]? = some (.list ((xs.map V.int).drop (at'.toNat + 1))) := by simp
    simp only [addV, x1, x2]
    rw [if_pos (by simp; omega)]
    simp
  have n1 : newL [w] ⟨upd l "_law_wrong_here" w, HH ++ [L7, .list ((xs.map V.int).take at'.toNat)]⟩ = .ok (.ref (HH.length + 2)) ⟨upd l "_law_wrong_here" w, HH ++ [L7, .list ((xs.map V.int).take at'.toNat), .list [w]]⟩ := by
    rw [r_newL, if_pos (by simp)]; simp
  have a6 : addV (.int at') (.int 1) ⟨upd l "_law_wrong_here" w, HH ++ [L7, .list ((xs.map V.int).take at'.toNat), .list [w], .list ((xs.map V.int).take at'.toNat ++ [w])]⟩ = .ok (.int (at' + 1)) ⟨upd l "_law_wrong_here" w, HH ++ [L7, .list ((xs.map V.int).take at'.toNat), .list [w], .list ((xs.map V.int).take at'.toNat ++ [w])]⟩ := rfl
  have u1 : upd l "_law_wrong_here" w "_law_sizes" = some (.ref j) := by simpa [upd] using a1
  have u2 : upd l "_law_wrong_here" w "_law_at" = some (.int at') := by simpa [upd] using a2
  simp only [t_law_bad_sizes_5, r_bnd, r_get, u1, u2, upd_same, r_pur, s1, n1, s2, a6, s3, s4]

/-- a Plan of these is refused at H -/
noncomputable def Refd (v1 v2 v3 : V) (H : Hp) : Prop := ∃ H', f_Plan_init sn [.inst "Plan" H.length, v1, v2, v3] (H ++ [.flds []]) = .exc "BadPlan" H'

theorem six_pick (l : Loc) (top more r : Int) (hr : r = more.fmod 6) (hm : 0 ≤ more) (ht : 0 ≤ top) :
    ∃ w, itemV sn (.ref H.length) (.int r) ⟨l, H ++ [.list [.int 0, .int (-more), .int (top + 1 + more), .bool true, .str "3", .none]]⟩ = .ok w ⟨l, H ++ [.list [.int 0, .int (-more), .int (top + 1 + more), .bool true, .str "3", .none]]⟩ ∧ WBad sn w 0 top := by
  obtain ⟨h1, h2⟩ := fmod_range more 6 (by omega)
  rw [← hr] at h1 h2
  have : r = 0 ∨ r = 1 ∨ r = 2 ∨ r = 3 ∨ r = 4 ∨ r = 5 := by omega
  rcases this with h | h | h | h | h | h <;> subst h
  · exact ⟨.int 0, by simp [itemV], wbad_int sn (by omega)⟩
  · exact ⟨.int (-more), by simp [itemV], wbad_int sn (by omega)⟩
  · exact ⟨.int (top + 1 + more), by simp [itemV], wbad_int sn (by omega)⟩
  · exact ⟨.bool true, by simp [itemV], wbad_ty sn (t := "bool") (fun _ => rfl) (by decide)⟩
  · exact ⟨.str "3", by simp [itemV], wbad_ty sn (t := "str") (fun _ => rfl) (by decide)⟩
  · exact ⟨.none, by simp [itemV], wbad_ty sn (t := "NoneType") (fun _ => rfl) (by decide)⟩

theorem v_wrong (j : Nat) (xs : List Int) (p len kind : Int) (hj : H[j]? = some (.list (xs.map V.int))) (hS : Sizes len xs) (hne : xs ≠ []) (h8 : xs.length ≤ 8) (hl : 1 ≤ len ∧ len ≤ 60) (hp : 1 ≤ p ∧ p ≤ 40) (hk : 0 ≤ kind) (hk4 : kind.fmod 4 ≠ 0) :
    ∃ v H', f_law_wrong sn [.int p, .int len, .ref j, .int kind] H = .ok v H' ∧ ∃ v1 v2 v3, v = .tup [v1, v2, v3] ∧ Refd sn v1 v2 v3 H' := by
  have hmore : 0 ≤ kind.fdiv 4 := Int.fdiv_nonneg hk (by omega)
  generalize hm : kind.fdiv 4 = more at hmore
  refine Rt.fn (m := m_law_wrong sn) rfl ?_
  refine seq_rt (P := fun q => q.H = H ∧ q.l "_law_pages" = some (.int p) ∧ q.l "_law_length" = some (.int len) ∧ q.l "_law_sizes" = some (.ref j) ∧ q.l "_law_cell" = some (.int kind) ∧ q.l "_law_more" = some (.int more))
    (Nx.of (q' := ⟨upd (initL ["_law_pages", "_law_length", "_law_sizes", "_law_cell"] [.int p, .int len, .ref j, .int kind]) "_law_more" (.int more), H⟩) (by simp [t_law_wrong_1, r_bnd, r_get, initL, upd_same, upd_ne, r_pur, divV, hm, r_set]) ⟨rfl, by simp [upd, initL], by simp [upd, initL], by simp [upd, initL], by simp [upd, initL], by simp [upd]⟩) ?_
  rintro ⟨l, HH⟩ ⟨hH, a1, a2, a3, a4, a5⟩
  dsimp only at hH a1 a2 a3 a4 a5
  subst hH
  by_cases c1 : kind.fmod 4 = 1
  · obtain ⟨w, hw, hb⟩ := six_pick sn HH l 40 more (more.fmod 6) rfl hmore (by omega)
    refine seq_rt0 (Rt.of (v := .tup [w, .int len, .ref j]) (q' := ⟨l, HH ++ [.list [.int 0, .int (-more), .int (41 + more), .bool true, .str "3", .none]]⟩) ?_ ⟨w, .int len, .ref j, rfl, _, init_bad1 sn _ _ w (.int len) (.ref j) (hb _)⟩)
    simp at hw
    simp [t_law_wrong_2, r_bnd, r_get, a1, a2, a3, a4, a5, r_pur, modV, cmpV, r_eq_int, c1, negV, addV, r_newL, hw, newT]
  have s2 : t_law_wrong_2 sn ⟨l, HH⟩ = .ok .next ⟨l, HH⟩ := by simp [t_law_wrong_2, r_bnd, r_get, a4, r_pur, modV, cmpV, r_eq_int, c1]
  refine seq_rt (P := fun q => q = ⟨l, HH⟩) (Nx.of s2 rfl) ?_
  rintro _ rfl
  by_cases c2 : kind.fmod 4 = 2
  · obtain ⟨w, hw, hb⟩ := six_pick sn HH l 60 more (more.fmod 6) rfl hmore (by omega)
    refine seq_rt0 (Rt.of (v := .tup [.int p, w, .ref j]) (q' := ⟨l, HH ++ [.list [.int 0, .int (-more), .int (61 + more), .bool true, .str "3", .none]]⟩) ?_ ⟨.int p, w, .ref j, rfl, _, init_bad2 sn _ _ (.int p) w (.ref j) (by rw [v_between_int, decide_eq_true hp]) (hb _)⟩)
    simp at hw
    simp [t_law_wrong_3, r_bnd, r_get, a1, a2, a3, a4, a5, r_pur, modV, cmpV, r_eq_int, c2, negV, addV, r_newL, hw, newT]
  have s3 : t_law_wrong_3 sn ⟨l, HH⟩ = .ok .next ⟨l, HH⟩ := by simp [t_law_wrong_3, r_bnd, r_get, a4, r_pur, modV, cmpV, r_eq_int, c2]
  refine seq_rt (P := fun q => q = ⟨l, HH⟩) (Nx.of s3 rfl) ?_
  rintro _ rfl
  by_cases c3 : more.fmod 2 = 0
  · have it0 : ∀ T, itemsOf sn (.ref j) (HH ++ T) = some (xs.map V.int) := fun T => by simp only [itemsOf, pre_get (H' := HH ++ T) ⟨_, rfl⟩ hj]
    have h60 : (1 : Int) ≤ 60 ∧ (60 : Int) ≤ 60 := by omega
    generalize hT : ([O.list [], O.list (rangeL 1 9), O.list [.ref HH.length, .ref (HH.length + 1), .str "1", .none, .tup (xs.map V.int), .tup (xs.map V.int)]] : Hp) = T
    have hpick : ∃ w, itemV sn (.ref (HH.length + 2)) (.int ((more.fdiv 2).fmod 6)) ⟨l, HH ++ T⟩ = .ok w ⟨l, HH ++ T⟩ ∧ Refd sn (.int p) (.int 60) w (HH ++ T) := by
      have g : (HH ++ T)[HH.length + 2]? = some (O.list [.ref HH.length, .ref (HH.length + 1), .str "1", .none, .tup (xs.map V.int), .tup (xs.map V.int)]) := by subst hT; simp
      have g0 : (HH ++ T ++ [O.flds []])[HH.length]? = some (O.list []) := by subst hT; simp
      have g1 : (HH ++ T ++ [O.flds []])[HH.length + 1]? = some (O.list (rangeL 1 9)) := by subst hT; simp
      obtain ⟨h1, h2⟩ := fmod_range (more.fdiv 2) 6 (by omega)
      generalize (more.fdiv 2).fmod 6 = r at h1 h2
      have : r = 0 ∨ r = 1 ∨ r = 2 ∨ r = 3 ∨ r = 4 ∨ r = 5 := by omega
      rcases this with h | h | h | h | h | h <;> subst h
      · exact ⟨.ref HH.length, by simp [itemV, g], _, init_bad3' sn _ _ _ p 60 [] hp h60 g0 (.inl rfl)⟩
      · exact ⟨.ref (HH.length + 1), by simp [itemV, g], _, init_bad3' sn _ _ _ p 60 _ hp h60 g1 (.inr (by rw [rangeL_length]; omega))⟩
      · exact ⟨.str "1", by simp [itemV, g], _, init_bad3 sn _ _ p 60 (.str "1") "str" hp h60 rfl (by decide) (by decide)⟩
      · exact ⟨.none, by simp [itemV, g], _, init_bad3 sn _ _ p 60 .none "NoneType" hp h60 rfl (by decide) (by decide)⟩
      · exact ⟨.tup (xs.map V.int), by simp [itemV, g], _, init_bad3 sn _ _ p 60 (.tup (xs.map V.int)) "tuple" hp h60 rfl (by decide) (by decide)⟩
      · exact ⟨.tup (xs.map V.int), by simp [itemV, g], _, init_bad3 sn _ _ p 60 (.tup (xs.map V.int)) "tuple" hp h60 rfl (by decide) (by decide)⟩
    obtain ⟨w, hw, hb⟩ := hpick
    refine seq_rt0 (Rt.of (v := .tup [.int p, .int 60, w]) (q' := ⟨l, HH ++ T⟩) ?_ ⟨.int p, .int 60, w, rfl, hb⟩)
    have n1 : newL [] ⟨l, HH⟩ = .ok (.ref HH.length) ⟨l, HH ++ [.list []]⟩ := rfl
    have n2 : rangeLV [.int 1, .int 10] ⟨l, HH ++ [.list []]⟩ = .ok (.ref (HH.length + 1)) ⟨l, HH ++ [.list [], .list (rangeL 1 9)]⟩ := by simp [rangeLV]
    have n3 : tupleOfV sn [.ref j] ⟨l, HH ++ [.list [], .list (rangeL 1 9)]⟩ = .ok (.tup (xs.map V.int)) ⟨l, HH ++ [.list [], .list (rangeL 1 9)]⟩ := by
      simp only [tupleOfV, it0]; rw [if_pos (by simp; omega)]
    have n4 : newL [.ref HH.length, .ref (HH.length + 1), .str "1", .none, .tup (xs.map V.int), .tup (xs.map V.int)] ⟨l, HH ++ [.list [], .list (rangeL 1 9)]⟩ = .ok (.ref (HH.length + 2)) ⟨l, HH ++ T⟩ := by
      rw [r_newL, if_pos (by simp), ← hT]; simp
    simp [t_law_wrong_4, r_bnd, r_get, a1, a3, a5, r_pur, modV, divV, cmpV, r_eq_int, c3, n1, n2, n3, n4, hw, newT]
  have s4 : t_law_wrong_4 sn ⟨l, HH⟩ = .ok .next ⟨l, HH⟩ := by simp [t_law_wrong_4, r_bnd, r_get, a5, r_pur, modV, cmpV, r_eq_int, c3]
  refine seq_rt (P := fun q => q = ⟨l, HH⟩) (Nx.of s4 rfl) ?_
  rintro _ rfl
  obtain ⟨v, H', hbs, i, ys, w, rest, rfl, b1, b2, b3, b4⟩ := v_bad_sizes sn HH j xs len (more.fdiv 2) hj hS hne h8 hl.1
  refine Rt.of (v := .tup [.int p, .int len, .ref i]) (q' := ⟨l, H'⟩) (by simp [t_law_wrong_5, r_bnd, r_get, a1, a2, a3, a5, r_pur, divV, r_call, hbs, newT]) ⟨.int p, .int len, .ref i, rfl, _, init_bad4 sn _ _ i p len ys w rest hp hl (pre_get ⟨_, rfl⟩ b1) b2 b3 (b4 _)⟩

theorem v_law_whole_int (i : Int) : f_law_whole sn [.int i] H = .ok (.bool true) H := by
  simp [f_law_whole, m_law_whole, t_law_whole_1, r_fn, initL, r_bnd, r_pur, r_get, upd, r_isi, tyOf, r_truth, r_ite]

theorem law02_value : ∃ H', f_law sn [.scr] [] = .ok (.bool true) H' := by
  obtain ⟨c0, hc0⟩ := v_cell sn [] 0 (by omega) (by omega)
  obtain ⟨c1, hc1⟩ := v_cell sn [] 1 (by omega) (by omega)
  obtain ⟨c2, hc2⟩ := v_cell sn [] 2 (by omega) (by omega)
  obtain ⟨c3, hc3⟩ := v_cell sn [] 3 (by omega) (by omega)
  obtain ⟨p1, p2⟩ := fmod_range c0 40 (by omega)
  obtain ⟨l1, l2⟩ := fmod_range c1 60 (by omega)
  obtain ⟨m1, m2⟩ := fmod_range c3 8 (by omega)
  suffices h : ∃ v H', f_law sn [.scr] [] = .ok v H' ∧ v = .bool true by
    obtain ⟨v, H', h1, rfl⟩ := h; exact ⟨H', h1⟩
  generalize hpg : 1 + c0.fmod 40 = p
  generalize hln : 1 + c1.fmod 60 = len
  have hp : 1 ≤ p ∧ p ≤ 40 := by omega
  have hl : 1 ≤ len ∧ len ≤ 60 := by omega
  obtain ⟨vs, H1, hsb, xs, rfl, hpre, hj, hS, hne, h8⟩ := v_sizes_by sn [] c2 len (1 + c3.fmod 8) hl.1 (by omega) (by omega)
  obtain ⟨c4, hc4⟩ := v_cell sn H1 4 (by omega) (by omega)
  obtain ⟨k1, k2⟩ := fmod_range c4 4000 (by omega)
  refine Rt.fn (m := m_law sn) rfl ?_
  refine seq_rt (P := fun q => q = ⟨upd (initL ["_law_script"] [.scr]) "_law_pages" (.int p), []⟩) (Nx.of (by simp [t_law_1, r_bnd, r_pur, r_get, initL, upd_same, upd_ne, r_call, hc0, modV, addV, r_set, hpg]) rfl) ?_
  rintro _ rfl
  refine seq_rt (P := fun q => q = ⟨upd (upd (initL ["_law_script"] [.scr]) "_law_pages" (.int p)) "_law_length" (.int len), []⟩) (Nx.of (by simp [t_law_2, r_bnd, r_pur, r_get, initL, upd_same, upd_ne, r_call, hc1, modV, addV, r_set, hln]) rfl) ?_
  rintro _ rfl
  refine seq_rt (P := fun q => q = ⟨upd (upd (upd (initL ["_law_script"] [.scr]) "_law_pages" (.int p)) "_law_length" (.int len)) "_law_sizes" (.ref 0), H1⟩) (Nx.of (by simp [t_law_3, r_bnd, r_pur, r_get, initL, upd_same, upd_ne, r_call, hc2, hc3, modV, addV, r_set, hsb]) rfl) ?_
  rintro _ rfl
  refine seq_rt (P := fun q => q.H = H1 ∧ q.l "_law_script" = some .scr ∧ q.l "_law_pages" = some (.int p) ∧ q.l "_law_length" = some (.int len) ∧ q.l "_law_sizes" = some (.ref 0) ∧ q.l "_law_kind" = some (.int (c4.fmod 4000)))
    (Nx.of (q' := ⟨upd (upd (upd (upd (initL ["_law_script"] [.scr]) "_law_pages" (.int p)) "_law_length" (.int len)) "_law_sizes" (.ref 0)) "_law_kind" (.int (c4.fmod 4000)), H1⟩) (by simp [t_law_4, r_bnd, r_pur, r_get, initL, upd_same, upd_ne, r_call, hc4, modV, r_set]) ⟨rfl, by simp [upd, initL], by simp [upd], by simp [upd], by simp [upd], by simp [upd]⟩) ?_
  clear hsb hc0 hc1 hc2 hc3 hpre
  rintro ⟨l, HH⟩ ⟨hH, a1, a2, a3, a4, a5⟩
  dsimp only at hH a1 a2 a3 a4 a5
  subst hH
  change HH[0]? = _ at hj
  generalize c4.fmod 4000 = kind at a5 k1 k2
  obtain ⟨q1, q2⟩ := fmod_range kind 4 (by omega)
  by_cases hk : 0 < kind.fmod 4
  · obtain ⟨v, H', hw, v1, v2, v3, rfl, H'', hb⟩ := v_wrong sn HH 0 xs p len kind hj hS hne h8 hl hp k1 (by omega)
    obtain ⟨c5, hc5⟩ := v_cell sn H' 5 (by omega) (by omega)
    refine seq_rt0 (Rt.of (v := .bool true) (q' := ⟨upd l "_law_wrong_here" (.tup [v1, v2, v3]), H''⟩) ?_ rfl)
    simp [t_law_5, r_bnd, r_get, a1, a2, a3, a4, a5, r_pur, modV, cmpV, hk, r_seq, r_call, hw, r_set, upd_same, upd_ne, itemV, hc5, v_refused sn H' v1 v2 v3 c5 H'' hb]
  have s5 : t_law_5 sn ⟨l, HH⟩ = .ok .next ⟨l, HH⟩ := by simp [t_law_5, r_bnd, r_get, a5, r_pur, modV, cmpV, hk]
  refine seq_rt (P := fun q => q = ⟨l, HH⟩) (Nx.of s5 rfl) ?_
  rintro _ rfl
  have hit : itemsOf sn (.ref 0) HH = some (xs.map V.int) := by simp [itemsOf, hj]
  have hjl : 0 < HH.length := (List.getElem?_eq_some_iff.mp hj).1
  refine seq_rt (P := fun q => q = ⟨upd l "_law_handed" (.ref HH.length), HH ++ [.list (xs.map V.int)]⟩) (Nx.of (by simp [t_law_6, r_bnd, r_get, a4, r_pur, r_listOf sn l HH hit (by simp; omega), r_set]) rfl) ?_
  rintro _ rfl
  have hin := v_init sn (HH ++ [.list (xs.map V.int)] ++ [.flds []]) (HH.length + 1) HH.length p len xs hp hl hS hne h8 (by simp) (by simp)
  have hlen2 : (HH ++ [O.list (xs.map V.int)] ++ [O.flds []]).length = HH.length + 1 + 1 := by simp
  rw [hlen2] at hin
  have hH2 : ((HH ++ [O.list (xs.map V.int)] ++ [O.flds []]) ++ [O.list (xs.map V.int)]).set (HH.length + 1) (.flds (planF p len (HH.length + 1 + 1))) = HH ++ [O.list (xs.map V.int), O.flds (planF p len (HH.length + 1 + 1)), O.list (xs.map V.int)] := by
    simp [List.set_append]
  rw [hH2] at hin
  have b2 : upd l "_law_handed" (.ref HH.length) "_law_pages" = some (.int p) := by simpa [upd] using a2
  have b3 : upd l "_law_handed" (.ref HH.length) "_law_length" = some (.int len) := by simpa [upd] using a3
  refine seq_rt (P := fun q => q = ⟨upd (upd l "_law_handed" (.ref HH.length)) "_law_plan" (.inst "Plan" (HH.length + 1)), HH ++ [O.list (xs.map V.int), O.flds (planF p len (HH.length + 1 + 1)), O.list (xs.map V.int)]⟩) (Nx.of ?_ rfl) ?_
  · simp only [t_law_7, r_bnd, r_pur, r_get, b2, b3, upd_same, r_make, List.length_append, List.length_cons, List.length_nil, Nat.zero_add]
    rw [hin]
    rfl
  rintro _ rfl
  generalize hl2 : upd (upd l "_law_handed" (.ref HH.length)) "_law_plan" (.inst "Plan" (HH.length + 1)) = l2
  have d1 : l2 "_law_handed" = some (.ref HH.length) := by subst hl2; simp [upd]
  have d2 : l2 "_law_plan" = some (.inst "Plan" (HH.length + 1)) := by subst hl2; simp [upd]
  have d3 : l2 "_law_pages" = some (.int p) := by subst hl2; simpa [upd] using a2
  have d4 : l2 "_law_length" = some (.int len) := by subst hl2; simpa [upd] using a3
  have d5 : l2 "_law_sizes" = some (.ref 0) := by subst hl2; simpa [upd] using a4
  have g0 : ∀ T, (HH ++ T)[0]? = some (.list (xs.map V.int)) := fun T => pre_get ⟨_, rfl⟩ hj
  have gH : ∀ a b c, (HH ++ [a, b, c])[HH.length]? = some a := by simp
  have gP : ∀ a b c, (HH ++ [a, b, c])[HH.length + 1]? = some b := by simp
  have gS : ∀ a b c, (HH ++ [a, b, c])[HH.length + 1 + 1]? = some c := fun a b c => by rw [List.getElem?_append_right (by omega), show HH.length + 1 + 1 - HH.length = 2 by omega]; rfl
  have e8 := r_eq_ints (q := ⟨l2, HH ++ [O.list (xs.map V.int), O.flds (planF p len (HH.length + 1 + 1)), O.list (xs.map V.int)]⟩) (gH _ _ _) (g0 _)
  refine seq_rt (P := fun q => q = ⟨l2, HH ++ [O.list (xs.map V.int), O.flds (planF p len (HH.length + 1 + 1)), O.list (xs.map V.int)]⟩) (Nx.of ?_ rfl) ?_
  · simp [t_law_8, r_bnd, r_get, d1, d5, r_pur, cmpV, e8, r_eq_int]
  rintro _ rfl
  refine seq_rt (P := fun q => q = ⟨l2, HH ++ [O.list (xs.map V.int ++ [.int (len + 1)]), O.flds (planF p len (HH.length + 1 + 1)), O.list (xs.map V.int)]⟩) (Nx.of ?_ rfl) ?_
  · simp [t_law_9, r_bnd, r_get, d1, d4, r_pur, r_kind, addV, r_append (xs := xs.map V.int) _ l2 _ (gH _ _ _) (by simp; omega), List.set_append]
  rintro _ rfl
  refine seq_rt (P := fun q => q = ⟨l2, HH ++ [O.list (xs.map V.int ++ [.int (len + 1)]), O.flds (planF p len (HH.length + 1 + 1)), O.list (xs.map V.int)]⟩) (Nx.of ?_ rfl) ?_
  · have hty : tyOf sn (HH ++ [O.list (xs.map V.int ++ [.int (len + 1)]), O.flds (planF p len (HH.length + 1 + 1)), O.list (xs.map V.int)]) (.ref (HH.length + 1 + 1)) = some "list" := by simp only [tyOf, gS]
    simp [t_law_10, r_bnd, r_get, d2, r_pur, r_attr, pl_pages, pl_length, pl_sizes, r_call, v_law_whole_int, r_truth, r_isi, hty, gP]
  rintro _ rfl
  have e11 := r_eq_ints (q := ⟨l2, HH ++ [O.list (xs.map V.int ++ [.int (len + 1)]), O.flds (planF p len (HH.length + 1 + 1)), O.list (xs.map V.int)]⟩) (gS _ _ _) (g0 _)
  refine Rt.of (v := .bool true) (q' := ⟨l2, HH ++ [O.list (xs.map V.int ++ [.int (len + 1)]), O.flds (planF p len (HH.length + 1 + 1)), O.list (xs.map V.int)]⟩) ?_ rfl
  simp [t_law_11, r_bnd, r_get, d2, d3, d4, d5, r_pur, r_attr, pl_pages, pl_length, pl_sizes, cmpV, r_eq_int, r_truth, e11, gP]
end
end Mine

open PySem PySem.W PyProof.Rows
set_option Elab.async false
set_option maxRecDepth 100000
set_option maxHeartbeats 8000000
theorem PySem.Challenge.cw_uf060003_02_holds : PySem.Challenge.rw_uf060003_02.Holds := by
  refine hd02 ?_
  intro w s₀ s₁ mg mb G Y fa o pm cd doc dV kV ho hd hcd hD hmg hg args vals as hpre hlay hrd hwl hlo
  have KX := kIn_of Y
  refine Ground.open G ?_
  intro T B D TE TW
  clear hd hcd hD ho
  wrow_args hpre hlay hrd hwl hlo
  rename_i sn _ _ _ _ _ _ _ sa sv _ hL _ _ _ hI _ hlen _
  have hfa : fa = 216 := by
    have h1 : nsIn (hd02.heap_39 w.params) mainGlobals (Str.ofString "law") = some (some (.ref 216)) := by kernel_rfl
    have h2 := mg_of KX T.g h1
    have h3 : mg (Str.ofString "law") = some (.ref fa) := hmg
    rw [h2] at h3; injection h3 with h3; injection h3 with h3; exact h3.symm
  subst hfa
  have C : Mine.CxOk (Mine.Gx w s₁.heap s₁.os mg mb sa sv sn) := ⟨KX, T.g, T.b, T.builtins, T.nolimit, T.seer (by decide +kernel), rfl, hL, hI, by show sn.length ≤ 63; omega⟩
  refine enter_call (Mine.run_of C (Mine.s_law C) (by decide) rfl rfl hg (Mine.law02_value sn) fun s' hk hos hgn => GoodW.toG ⟨.inl ⟨.bool true, .bool true, [], rfl, fun cls => rfl, .bool true, by kernel_rfl, fun _ => ⟨List.nodup_nil, nofun⟩⟩, hk, hos, hgn⟩)

